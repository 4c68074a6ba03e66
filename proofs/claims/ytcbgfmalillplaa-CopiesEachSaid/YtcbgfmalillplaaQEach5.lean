/- Part 5 of the proof: own library, plain forms and walks. -/
import Derived.Test.YtcbgfmalillplaaQEach4
set_option linter.all false
set_option linter.deprecated false
namespace Go.Ab
open Go Go.RowKit Go.Proofs Go.Sh Go.En
abbrev qo20_1 (r:Run) (jm:Nat) (jf:Nat) (C:Nat->Prop):Prop:=small r -> ∀ (x0:Nat),x0<=r.machines.length->decide ((x0:Int) < (↑(r.machines.length):Int))=true->C x0
abbrev qo20_2 (r:Run) (jm:Nat) (jf:Nat) (C:Nat->Prop):Prop:=qo20_1 r jm jf fun x0=>eqN x0 jm=true->C x0
abbrev qo20_3 (r:Run) (jm:Nat) (jf:Nat) (C:Nat->Prop):Prop:=qo20_1 r jm jf fun x0=>eqN x0 jm=false->C x0
abbrev qo20_4 (r:Run) (jm:Nat) (jf:Nat) (C:Nat->Prop):Prop:=small r -> ∀ (x0:Nat),x0<=r.machines.length->decide ((x0:Int) < (↑(r.machines.length):Int))=false->C x0
abbrev qo20_5 (r:Run) (jm:Nat) (jf:Nat) (C:Nat->Nat->Prop):Prop:=qo20_4 r jm jf fun x0 => ∀ (x13:Nat),x13<=r.found.length->decide ((x13:Int) < (↑(r.found.length):Int))=true->C x0 x13
abbrev qo20_6 (r:Run) (jm:Nat) (jf:Nat) (C:Nat->Nat->Prop):Prop:=qo20_5 r jm jf fun x0 x13=>eqN x13 jf=true->C x0 x13
abbrev qo20_7 (r:Run) (jm:Nat) (jf:Nat) (C:Nat->Nat->Prop):Prop:=qo20_5 r jm jf fun x0 x13=>eqN x13 jf=false->C x0 x13
theorem wo20 (r:Run) (jm:Nat) (jf:Nat)
 (o0:small r->0=(↑0:Int))
 (o1:small r->chLen r jm 0=0)
 (o2:small r->0<=List.length (Run.machines r))
 (o3:qo20_2 r jm jf fun x0=>0<=(x0:Int))
 (o4:qo20_2 r jm jf fun x0=>(x0:Int) < (↑(r.machines.length):Int))
 (o5:qo20_2 r jm jf fun x0=>0 + (mach r x0).changes.length<=65536)
 (o6:qo20_2 r jm jf fun x0=>0<=(x0:Int))
 (o7:qo20_2 r jm jf fun x0=>(x0:Int) < (↑(r.machines.length):Int))
 (o8:qo20_2 r jm jf fun x0=>x0 + 1<=65536)
 (o9:qo20_2 r jm jf fun x0=>jm=x0)
 (o10:qo20_2 r jm jf fun x0=>inI ((x0:Int) + 1))
 (o11:qo20_2 r jm jf fun x0=>(x0:Int) + 1=(↑(x0 + 1):Int))
 (o12:qo20_2 r jm jf fun x0=>(mach r x0).rate=(mach r jm).rate)
 (o13:qo20_2 r jm jf fun x0=>0 + (mach r x0).changes.length=chLen r jm (x0 + 1))
 (o14:qo20_2 r jm jf fun x0 => ∀ (i6:Nat),i6 < 0 + (mach r x0).changes.length->cSpan ((mach r x0).changes.getD i6 default)=cSpan (chg (mach r jm) i6))
 (o15:qo20_2 r jm jf fun x0=>x0 + 1<=r.machines.length)
 (o16:qo20_2 r jm jf fun x0=>r.machines.length - (x0 + 1) < r.machines.length - x0)
 (o17:qo20_3 r jm jf fun x0=>0<=(x0:Int))
 (o18:qo20_3 r jm jf fun x0=>(x0:Int) < (↑(r.machines.length):Int))
 (o19:qo20_3 r jm jf fun x0=>0 + (mach r x0).changes.length<=65536)
 (o20:qo20_3 r jm jf fun x0=>0<=(x0:Int))
 (o21:qo20_3 r jm jf fun x0=>(x0:Int) < (↑(r.machines.length):Int))
 (o22:qo20_3 r jm jf fun x0=>x0 + 1<=65536)
 (o23:qo20_3 r jm jf fun x0=>jm < x0 ∨ x0 + 1<=jm)
 (o24:qo20_3 r jm jf fun x0=>inI ((x0:Int) + 1))
 (o25:qo20_3 r jm jf fun x0=>(x0:Int) + 1=(↑(x0 + 1):Int))
 (o26:qo20_3 r jm jf fun x0 => ∀ (i8:Nat),i8 < x0 + 1->i8 ≠ jm->catF x0 (fun (k:Nat)=>cMach (mach r k)) (fun (j:Nat)=>List.getD [[AV.sl 2 (0 + (mach r x0).changes.length) fun (i:Nat)=>cSpan ((mach r x0).changes.getD i default),iv (mach r x0).rate]] j (TI.za ti42)) i8=cMach (mach r i8))
 (o27:qo20_3 r jm jf fun x0=>chLen r jm x0=chLen r jm (x0 + 1))
 (o28:qo20_3 r jm jf fun x0=>x0 + 1<=r.machines.length)
 (o29:qo20_3 r jm jf fun x0=>r.machines.length - (x0 + 1) < r.machines.length - x0)
 (o30:qo20_4 r jm jf fun x0=>0=(↑0:Int))
 (o31:qo20_4 r jm jf fun x0=>x0=r.machines.length)
 (o32:qo20_4 r jm jf fun x0=>chLen r jm x0=chLen r jm r.machines.length)
 (o33:qo20_4 r jm jf fun x0=>nwLen r jf 0=0)
 (o34:qo20_4 r jm jf fun x0=>0<=r.found.length)
 (o35:qo20_5 r jm jf fun x0 x13=>0<=(x13:Int))
 (o36:qo20_5 r jm jf fun x0 x13=>(x13:Int) < (↑(r.found.length):Int))
 (o37:qo20_6 r jm jf fun x0 x13=>0 + (fnd r x13).new.length<=65536)
 (o38:qo20_6 r jm jf fun x0 x13=>0 + (fnd r x13).frm.length<=65536)
 (o39:qo20_6 r jm jf fun x0 x13=>x13 + 1<=65536)
 (o40:qo20_6 r jm jf fun x0 x13=>jf=x13)
 (o41:qo20_6 r jm jf fun x0 x13=>inI ((x13:Int) + 1))
 (o42:qo20_6 r jm jf fun x0 x13=>(x13:Int) + 1=(↑(x13 + 1):Int))
 (o43:qo20_6 r jm jf fun x0 x13=>(fnd r x13).minute=(fnd r jf).minute)
 (o44:qo20_6 r jm jf fun x0 x13=>0 + (fnd r x13).frm.length=(fnd r jf).frm.length)
 (o45:qo20_6 r jm jf fun x0 x13 => ∀ (i27:Nat),i27 < (fnd r jf).frm.length -> [iv ((fnd r x13).frm.getD i27 0)] = [iv ((fnd r jf).frm.getD i27 0)])
 (o46:qo20_6 r jm jf fun x0 x13=>0 + (fnd r x13).new.length=nwLen r jf (x13 + 1))
 (o47:qo20_6 r jm jf fun x0 x13 => ∀ (i29:Nat),i29 < 0 + (fnd r x13).new.length -> [iv ((fnd r x13).new.getD i29 0)] = [iv ((fnd r jf).new.getD i29 0)])
 (o48:qo20_6 r jm jf fun x0 x13=>x13 + 1<=r.found.length)
 (o49:qo20_6 r jm jf fun x0 x13=>r.found.length - (x13 + 1) < r.found.length - x13)
 (o50:qo20_7 r jm jf fun x0 x13=>0 + (fnd r x13).new.length<=65536)
 (o51:qo20_7 r jm jf fun x0 x13=>0 + (fnd r x13).frm.length<=65536)
 (o52:qo20_7 r jm jf fun x0 x13=>x13 + 1<=65536)
 (o53:qo20_7 r jm jf fun x0 x13=>jf < x13 ∨ x13 + 1<=jf)
 (o54:qo20_7 r jm jf fun x0 x13=>inI ((x13:Int) + 1))
 (o55:qo20_7 r jm jf fun x0 x13=>(x13:Int) + 1=(↑(x13 + 1):Int))
 (o56:qo20_7 r jm jf fun x0 x13 => ∀ (i34:Nat),i34 < x13 + 1->i34 ≠ jf->catF x13 (fun (k:Nat)=>cFnd (fnd r k)) (fun (j:Nat)=>List.getD [[iv (fnd r x13).minute,AV.sl 1 (0 + (fnd r x13).new.length) fun (i:Nat)=>[iv ((fnd r x13).new.getD i 0)],AV.sl 1 (0 + (fnd r x13).frm.length) fun (i:Nat)=>[iv ((fnd r x13).frm.getD i 0)]]] j (TI.za ti32)) i34=cFnd (fnd r i34))
 (o57:qo20_7 r jm jf fun x0 x13=>nwLen r jf x13=nwLen r jf (x13 + 1))
 (o58:qo20_7 r jm jf fun x0 x13=>x13 + 1<=r.found.length)
 (o59:qo20_7 r jm jf fun x0 x13=>r.found.length - (x13 + 1) < r.found.length - x13)
 (o60:qo20_4 r jm jf fun x0 => ∀ (x13:Nat),x13<=r.found.length->decide ((x13:Int) < (↑(r.found.length):Int))=false->x13=r.found.length)
 (o61:qo20_4 r jm jf fun x0 => ∀ (x13:Nat),x13<=r.found.length->decide ((x13:Int) < (↑(r.found.length):Int))=false->nwLen r jf x13=nwLen r jf r.found.length)
  (l:List (Nat × Nat)) (hl:l.map (·.1)=(OutSpec.hout (ou20 r jm jf)).map (·.1)) (hnd:(l.map (·.2)).Nodup) :
  Triple Try.prog 20 (OutSpec.at (ou20 r jm jf) l):=by
 refine triple_out Try.func20 rfl Try.call20 T0_ok _ _ _ _ l rfl (Nat.le_of_ble_eq_true (by kernel_rfl)) hl hnd (by kernel_rfl) (by kernel_rfl) (by kernel_rfl) ?_
 intro hp C hC hE
 obtain ⟨P,w0,E0,av,hA⟩:=C
 subst hC
 refine swp_seq ?_
 refine sR (kt:=[1,2]) (kh:=[0,8]) (q:=True/\True/\True) (st':=ASt.mk [(1,.ptr 0 []),(2,.ptr 8 [])] [(0,.cells 25 (cRun r)),(8,.cells 25 [iv 0,iv 0,nilv,nilv])] 16) (by kernel_rfl) ⟨tv,tv,tv⟩ ?_
 refine swp_seq ?_
 refine sR (kt:=[1,2,3]) (kh:=[0,8,56]) (q:=True/\True/\True/\True/\True/\True/\True/\True) (st':=ASt.mk [(1,.ptr 0 []),(2,.ptr 8 []),(3,.ptr 56 [])] [(0,.cells 25 (cRun r)),(8,.cells 25 [iv 0,iv 0,nilv,nilv]),(56,.cells 25 [iv r.plates,iv r.last,nilv,nilv])] 72) (by kernel_rfl) ⟨tv,tv,tv,tv,tv,tv,tv,tv⟩ ?_
 refine swp_seq (swp_seq ?_)
 refine sR (kt:=[1,2,3,4]) (kh:=[0,8,56]) (q:=True/\True) (st':=ASt.mk [(1,.ptr 0 []),(2,.ptr 8 []),(3,.ptr 56 []),(4,iv 0)] [(0,.cells 25 (cRun r)),(8,.cells 25 [iv 0,iv 0,nilv,nilv]),(56,.cells 25 [iv r.plates,iv r.last,nilv,nilv])] 80) (by kernel_rfl) ⟨tv,tv⟩ ?_
 refine swp_block ?_
 refine swp_loopA (Hint.ann (h20xa r jm jf) [(1,AV.ptr 0 []),(2,AV.ptr 8 []),(3,AV.ptr 56 [])] [(0,OB.cells 25 (cRun r)),(8,OB.cells 25 [iv 0,iv 0,nilv,nilv])] 10080) (ent_q hE [] [(0,.same 0),(8,.same 8),(56,.same 56),(5000,.nil),(5002,.nil)] [] [0,8] (((some (Src.same 0)=some (Src.same 0)/\nilP = [])/\(some (Src.same 8)=some (Src.same 8)/\nilP = [])/\(some (Src.same 56)=some (Src.same 56)/\nilP = [])/\(iv 0=iv (↑0:Int)/\nilN = [])/\True)/\((OB.cells 25 (cRun r)=OB.cells 25 (cRun r)/\true=true)/\(OB.cells 25 [iv 0,iv 0,nilv,nilv]=OB.cells 25 [iv 0,iv 0,nilv,nilv]/\true=true)/\(25=25/\((iv r.plates=iv r.plates/\nilN = [])/\(iv r.last=iv r.last/\nilN = [])/\some Src.nil=some Src.nil/\(nilv=nilv/\nilN = [])/\True)/\true=true)/\0=0/\chLen r jm 0=0/\True)/\T2) (by kernel_rfl) (by kernel_rfl) ⟨⟨⟨rfl,rfl⟩,⟨rfl,rfl⟩,⟨rfl,rfl⟩,⟨(congrArg iv (o0 hp)),rfl⟩,tv⟩,⟨⟨rfl,rfl⟩,⟨rfl,rfl⟩,⟨rfl,⟨⟨rfl,rfl⟩,⟨rfl,rfl⟩,rfl,⟨rfl,rfl⟩,tv⟩,rfl⟩,rfl,(o1 hp),tv⟩,rfl,rfl⟩) (o2 hp) (fun (x0:Nat) hx0 => ?_)
 refine swp_seq (swp_seq ?_)
 refine sR (kt:=[1,2,3,4,16]) (kh:=[0,8,56,5000,5002]) (q:=True/\True/\True/\True/\True/\True) (st':=ASt.mk [(1,.ptr 0 []),(2,.ptr 8 []),(3,.ptr 56 []),(4,iv (x0:Int)),(16,bv (decide ((x0:Int) < (↑(r.machines.length):Int))))] [(0,.cells 25 (cRun r)),(8,.cells 25 [iv 0,iv 0,nilv,nilv]),(56,.cells 25 [iv r.plates,iv r.last,.vec 5000,nilv]),(5000,.vecx 42 2 x0 (fun (k:Nat)=>cMach (mach r k)) jm [.vec 5002,iv (mach r jm).rate]),(5002,.vec 37 2 (chLen r jm x0) fun (p:Nat)=>cSpan (chg (mach r jm) p))] 10120) (by kernel_rfl) ⟨tv,tv,tv,tv,tv,tv⟩ ?_
 refine swp_cond (decide ((x0:Int) < (↑(r.machines.length):Int))) (by kernel_rfl) (fun h1 => ?_) (fun h1 => ?_)
 ·refine swp_skip (swp_seq (swp_block ?_))
  refine swp_cases (eqN x0 jm) (fun h2 => ?_) (fun h2 => ?_)
  ·refine swp_region T0_ok mixed (cs:=[(17,focS),(18,focS)]) (kt:=[1,2,3,4]) (kh:=[0,8,56,10264,10192]) (q:=True/\True/\True/\True/\True/\True/\(0<=(x0:Int)/\(x0:Int) < (↑(r.machines.length):Int))/\True/\True/\0 + (mach r x0).changes.length<=65536/\True/\True/\True/\(0<=(x0:Int)/\(x0:Int) < (↑(r.machines.length):Int))/\True/\True/\True/\True/\(x0 + 1<=65536/\jm=x0)/\True/\True/\True) (st':=ASt.mk [(1,.ptr 0 []),(2,.ptr 8 []),(3,.ptr 56 []),(4,iv (x0:Int))] [(0,.cells 25 (cRun r)),(8,.cells 25 [iv 0,iv 0,nilv,nilv]),(56,.cells 25 [iv r.plates,iv r.last,.vec 10264,nilv]),(10264,.vecx 42 2 (x0 + 1) (fun (k:Nat)=>cMach (mach r k)) jm [.vec 10192,iv (mach r x0).rate]),(10192,.vec 37 2 (0 + (mach r x0).changes.length) fun (i:Nat)=>cSpan ((mach r x0).changes.getD i default))] 10288) (by kernel_rfl) ⟨tv,tv,tv,tv,tv,tv,⟨(o3 hp x0 hx0 h1 h2),(o4 hp x0 hx0 h1 h2)⟩,tv,tv,(o5 hp x0 hx0 h1 h2),tv,tv,tv,⟨(o6 hp x0 hx0 h1 h2),(o7 hp x0 hx0 h1 h2)⟩,tv,tv,tv,tv,⟨(o8 hp x0 hx0 h1 h2),(o9 hp x0 hx0 h1 h2)⟩,tv,tv,tv⟩ ?_
   refine sR (kt:=[1,2,3,4]) (kh:=[0,8,56,10264,10192]) (q:=True/\inI ((x0:Int) + 1)/\True/\True) (st':=ASt.mk [(1,.ptr 0 []),(2,.ptr 8 []),(3,.ptr 56 []),(4,iv ((x0:Int) + 1))] [(0,.cells 25 (cRun r)),(8,.cells 25 [iv 0,iv 0,nilv,nilv]),(56,.cells 25 [iv r.plates,iv r.last,.vec 10264,nilv]),(10264,.vecx 42 2 (x0 + 1) (fun (k:Nat)=>cMach (mach r k)) jm [.vec 10192,iv (mach r x0).rate]),(10192,.vec 37 2 (0 + (mach r x0).changes.length) fun (i:Nat)=>cSpan ((mach r x0).changes.getD i default))] 10312) (by kernel_rfl) ⟨tv,(o10 hp x0 hx0 h1 h2),tv,tv⟩ ?_
   exact loop_next (Hint.ann (h20xa r jm jf) [(1,AV.ptr 0 []),(2,AV.ptr 8 []),(3,AV.ptr 56 [])] [(0,OB.cells 25 (cRun r)),(8,OB.cells 25 [iv 0,iv 0,nilv,nilv])] 10080) x0 (ent_q hE [] [(0,.same 0),(8,.same 8),(56,.same 56),(5000,.same 10264),(5002,.same 10192)] [] [0,8] (((some (Src.same 0)=some (Src.same 0)/\nilP = [])/\(some (Src.same 8)=some (Src.same 8)/\nilP = [])/\(some (Src.same 56)=some (Src.same 56)/\nilP = [])/\(iv ((x0:Int) + 1)=iv (↑(x0 + 1):Int)/\nilN = [])/\True)/\((OB.cells 25 (cRun r)=OB.cells 25 (cRun r)/\true=true)/\(OB.cells 25 [iv 0,iv 0,nilv,nilv]=OB.cells 25 [iv 0,iv 0,nilv,nilv]/\true=true)/\(25=25/\((iv r.plates=iv r.plates/\nilN = [])/\(iv r.last=iv r.last/\nilN = [])/\some (Src.same 10264)=some (Src.same 10264)/\(nilv=nilv/\nilN = [])/\True)/\true=true)/\(42=42/\2=2/\x0 + 1=x0 + 1/\jm=jm/\(∀ (i3:Nat),i3 < x0 + 1->i3 ≠ jm->cMach (mach r i3)=cMach (mach r i3))/\(some (Src.same 10192)=some (Src.same 10192)/\(iv (mach r x0).rate=iv (mach r jm).rate/\nilN = [])/\True)/\true=true)/\(37=37/\2=2/\0 + (mach r x0).changes.length=chLen r jm (x0 + 1) /\ ∀ (i6:Nat),i6 < 0 + (mach r x0).changes.length->cSpan ((mach r x0).changes.getD i6 default)=cSpan (chg (mach r jm) i6))/\True)/\T2) (by kernel_rfl) (by kernel_rfl) ⟨⟨⟨rfl,rfl⟩,⟨rfl,rfl⟩,⟨rfl,rfl⟩,⟨(congrArg iv (o11 hp x0 hx0 h1 h2)),rfl⟩,tv⟩,⟨⟨rfl,rfl⟩,⟨rfl,rfl⟩,⟨rfl,⟨⟨rfl,rfl⟩,⟨rfl,rfl⟩,rfl,⟨rfl,rfl⟩,tv⟩,rfl⟩,⟨rfl,rfl,rfl,rfl,(fun i3=>(fun h4=>(fun h5=>rfl))),⟨rfl,⟨(congrArg iv (o12 hp x0 hx0 h1 h2)),rfl⟩,tv⟩,rfl⟩,⟨rfl,rfl,(o13 hp x0 hx0 h1 h2),(fun i6=>(fun h7=>(o14 hp x0 hx0 h1 h2 i6 h7)))⟩,tv⟩,rfl,rfl⟩) (o15 hp x0 hx0 h1 h2) (o16 hp x0 hx0 h1 h2)
  ·refine sR (kt:=[1,2,3,4]) (kh:=[0,8,56,10264,5002]) (q:=True/\True/\True/\True/\True/\True/\(0<=(x0:Int)/\(x0:Int) < (↑(r.machines.length):Int))/\True/\True/\0 + (mach r x0).changes.length<=65536/\True/\True/\True/\(0<=(x0:Int)/\(x0:Int) < (↑(r.machines.length):Int))/\True/\True/\True/\True/\(x0 + 1<=65536/\(jm < x0 ∨ x0 + 1<=jm))/\True/\True/\True) (st':=ASt.mk [(1,.ptr 0 []),(2,.ptr 8 []),(3,.ptr 56 []),(4,iv (x0:Int))] [(0,.cells 25 (cRun r)),(8,.cells 25 [iv 0,iv 0,nilv,nilv]),(56,.cells 25 [iv r.plates,iv r.last,.vec 10264,nilv]),(10264,.vecx 42 2 (x0 + 1) (catF x0 (fun (k:Nat)=>cMach (mach r k)) fun (j:Nat)=>List.getD [[.sl 2 (0 + (mach r x0).changes.length) fun (i:Nat)=>cSpan ((mach r x0).changes.getD i default),iv (mach r x0).rate]] j (TI.za ti42)) jm [.vec 5002,iv (mach r jm).rate]),(5002,.vec 37 2 (chLen r jm x0) fun (p:Nat)=>cSpan (chg (mach r jm) p))] 10288) (by kernel_rfl) ⟨tv,tv,tv,tv,tv,tv,⟨(o17 hp x0 hx0 h1 h2),(o18 hp x0 hx0 h1 h2)⟩,tv,tv,(o19 hp x0 hx0 h1 h2),tv,tv,tv,⟨(o20 hp x0 hx0 h1 h2),(o21 hp x0 hx0 h1 h2)⟩,tv,tv,tv,tv,⟨(o22 hp x0 hx0 h1 h2),(o23 hp x0 hx0 h1 h2)⟩,tv,tv,tv⟩ ?_
   refine sR (kt:=[1,2,3,4]) (kh:=[0,8,56,10264,5002]) (q:=True/\inI ((x0:Int) + 1)/\True/\True) (st':=ASt.mk [(1,.ptr 0 []),(2,.ptr 8 []),(3,.ptr 56 []),(4,iv ((x0:Int) + 1))] [(0,.cells 25 (cRun r)),(8,.cells 25 [iv 0,iv 0,nilv,nilv]),(56,.cells 25 [iv r.plates,iv r.last,.vec 10264,nilv]),(10264,.vecx 42 2 (x0 + 1) (catF x0 (fun (k:Nat)=>cMach (mach r k)) fun (j:Nat)=>List.getD [[.sl 2 (0 + (mach r x0).changes.length) fun (i:Nat)=>cSpan ((mach r x0).changes.getD i default),iv (mach r x0).rate]] j (TI.za ti42)) jm [.vec 5002,iv (mach r jm).rate]),(5002,.vec 37 2 (chLen r jm x0) fun (p:Nat)=>cSpan (chg (mach r jm) p))] 10312) (by kernel_rfl) ⟨tv,(o24 hp x0 hx0 h1 h2),tv,tv⟩ ?_
   exact loop_next (Hint.ann (h20xa r jm jf) [(1,AV.ptr 0 []),(2,AV.ptr 8 []),(3,AV.ptr 56 [])] [(0,OB.cells 25 (cRun r)),(8,OB.cells 25 [iv 0,iv 0,nilv,nilv])] 10080) x0 (ent_q hE [] [(0,.same 0),(8,.same 8),(56,.same 56),(5000,.same 10264),(5002,.same 5002)] [] [0,8] (((some (Src.same 0)=some (Src.same 0)/\nilP = [])/\(some (Src.same 8)=some (Src.same 8)/\nilP = [])/\(some (Src.same 56)=some (Src.same 56)/\nilP = [])/\(iv ((x0:Int) + 1)=iv (↑(x0 + 1):Int)/\nilN = [])/\True)/\((OB.cells 25 (cRun r)=OB.cells 25 (cRun r)/\true=true)/\(OB.cells 25 [iv 0,iv 0,nilv,nilv]=OB.cells 25 [iv 0,iv 0,nilv,nilv]/\true=true)/\(25=25/\((iv r.plates=iv r.plates/\nilN = [])/\(iv r.last=iv r.last/\nilN = [])/\some (Src.same 10264)=some (Src.same 10264)/\(nilv=nilv/\nilN = [])/\True)/\true=true)/\(42=42/\2=2/\x0 + 1=x0 + 1/\jm=jm/\(∀ (i8:Nat),i8 < x0 + 1->i8 ≠ jm->catF x0 (fun (k:Nat)=>cMach (mach r k)) (fun (j:Nat)=>List.getD [[AV.sl 2 (0 + (mach r x0).changes.length) fun (i:Nat)=>cSpan ((mach r x0).changes.getD i default),iv (mach r x0).rate]] j (TI.za ti42)) i8=cMach (mach r i8))/\(some (Src.same 5002)=some (Src.same 5002)/\(iv (mach r jm).rate=iv (mach r jm).rate/\nilN = [])/\True)/\true=true)/\(37=37/\2=2/\chLen r jm x0=chLen r jm (x0 + 1) /\ ∀ (i11:Nat),i11 < chLen r jm x0->cSpan (chg (mach r jm) i11)=cSpan (chg (mach r jm) i11))/\True)/\T2) (by kernel_rfl) (by kernel_rfl) ⟨⟨⟨rfl,rfl⟩,⟨rfl,rfl⟩,⟨rfl,rfl⟩,⟨(congrArg iv (o25 hp x0 hx0 h1 h2)),rfl⟩,tv⟩,⟨⟨rfl,rfl⟩,⟨rfl,rfl⟩,⟨rfl,⟨⟨rfl,rfl⟩,⟨rfl,rfl⟩,rfl,⟨rfl,rfl⟩,tv⟩,rfl⟩,⟨rfl,rfl,rfl,rfl,(fun i8=>(fun h9=>(fun h10=>(o26 hp x0 hx0 h1 h2 i8 h9 h10)))),⟨rfl,⟨rfl,rfl⟩,tv⟩,rfl⟩,⟨rfl,rfl,(o27 hp x0 hx0 h1 h2),(fun i11=>(fun h12=>rfl))⟩,tv⟩,rfl,rfl⟩) (o28 hp x0 hx0 h1 h2) (o29 hp x0 hx0 h1 h2)
 ·refine swp_exit (swp_seq (swp_seq ?_))
  refine sR (kt:=[1,2,3,5]) (kh:=[0,8,56,5000,5002]) (q:=True/\True) (st':=ASt.mk [(1,.ptr 0 []),(2,.ptr 8 []),(3,.ptr 56 []),(5,iv 0)] [(0,.cells 25 (cRun r)),(8,.cells 25 [iv 0,iv 0,nilv,nilv]),(56,.cells 25 [iv r.plates,iv r.last,.vec 5000,nilv]),(5000,.vecx 42 2 x0 (fun (k:Nat)=>cMach (mach r k)) jm [.vec 5002,iv (mach r jm).rate]),(5002,.vec 37 2 (chLen r jm x0) fun (p:Nat)=>cSpan (chg (mach r jm) p))] 10128) (by kernel_rfl) ⟨tv,tv⟩ ?_
  refine swp_block ?_
  refine swp_loopA (Hint.ann (h20xb r jm jf) [(1,AV.ptr 0 []),(2,AV.ptr 8 []),(3,AV.ptr 56 [])] [(0,OB.cells 25 (cRun r)),(8,OB.cells 25 [iv 0,iv 0,nilv,nilv])] 20128) (ent_q hE [] [(0,.same 0),(8,.same 8),(56,.same 56),(5000,.same 5000),(5002,.same 5002),(5001,.nil),(5003,.nil)] [] [0,8] (((some (Src.same 0)=some (Src.same 0)/\nilP = [])/\(some (Src.same 8)=some (Src.same 8)/\nilP = [])/\(some (Src.same 56)=some (Src.same 56)/\nilP = [])/\(iv 0=iv (↑0:Int)/\nilN = [])/\True)/\((OB.cells 25 (cRun r)=OB.cells 25 (cRun r)/\true=true)/\(OB.cells 25 [iv 0,iv 0,nilv,nilv]=OB.cells 25 [iv 0,iv 0,nilv,nilv]/\true=true)/\(25=25/\((iv r.plates=iv r.plates/\nilN = [])/\(iv r.last=iv r.last/\nilN = [])/\some (Src.same 5000)=some (Src.same 5000)/\some Src.nil=some Src.nil/\True)/\true=true)/\(42=42/\2=2/\x0=r.machines.length/\jm=jm/\(∀ (i14:Nat),i14 < x0->i14 ≠ jm->cMach (mach r i14)=cMach (mach r i14))/\(some (Src.same 5002)=some (Src.same 5002)/\(iv (mach r jm).rate=iv (mach r jm).rate/\nilN = [])/\True)/\true=true)/\(37=37/\2=2/\chLen r jm x0=chLen r jm r.machines.length /\ ∀ (i17:Nat),i17 < chLen r jm x0->cSpan (chg (mach r jm) i17)=cSpan (chg (mach r jm) i17))/\0=0/\nwLen r jf 0=0/\True)/\T2) (by kernel_rfl) (by kernel_rfl) ⟨⟨⟨rfl,rfl⟩,⟨rfl,rfl⟩,⟨rfl,rfl⟩,⟨(congrArg iv (o30 hp x0 hx0 h1)),rfl⟩,tv⟩,⟨⟨rfl,rfl⟩,⟨rfl,rfl⟩,⟨rfl,⟨⟨rfl,rfl⟩,⟨rfl,rfl⟩,rfl,rfl,tv⟩,rfl⟩,⟨rfl,rfl,(o31 hp x0 hx0 h1),rfl,(fun i14=>(fun h15=>(fun h16=>rfl))),⟨rfl,⟨rfl,rfl⟩,tv⟩,rfl⟩,⟨rfl,rfl,(o32 hp x0 hx0 h1),(fun i17=>(fun h18=>rfl))⟩,rfl,(o33 hp x0 hx0 h1),tv⟩,rfl,rfl⟩) (o34 hp x0 hx0 h1) (fun (x13:Nat) hx13 => ?_)
  refine swp_seq (swp_seq ?_)
  refine sR (kt:=[1,2,3,5,43]) (kh:=[0,8,56,5000,5001,5002,5003]) (q:=True/\True/\True/\True/\True/\True) (st':=ASt.mk [(1,.ptr 0 []),(2,.ptr 8 []),(3,.ptr 56 []),(5,iv (x13:Int)),(43,bv (decide ((x13:Int) < (↑(r.found.length):Int))))] [(0,.cells 25 (cRun r)),(8,.cells 25 [iv 0,iv 0,nilv,nilv]),(56,.cells 25 [iv r.plates,iv r.last,.vec 5000,.vec 5001]),(5000,.vecx 42 2 r.machines.length (fun (k:Nat)=>cMach (mach r k)) jm [.vec 5002,iv (mach r jm).rate]),(5001,.vecx 32 3 x13 (fun (k:Nat)=>cFnd (fnd r k)) jf [iv (fnd r jf).minute,.vec 5003,aInts (fnd r jf).frm]),(5002,.vec 37 2 (chLen r jm r.machines.length) fun (p:Nat)=>cSpan (chg (mach r jm) p)),(5003,.vec 3 1 (nwLen r jf x13) fun (p:Nat)=>[iv ((fnd r jf).new.getD p 0)])] 20168) (by kernel_rfl) ⟨tv,tv,tv,tv,tv,tv⟩ ?_
  refine swp_cond (decide ((x13:Int) < (↑(r.found.length):Int))) (by kernel_rfl) (fun h19 => ?_) (fun h19 => ?_)
  ·refine swp_skip (swp_seq (swp_block (swp_seq ?_)))
   refine sR (kt:=[1,2,3,5,6]) (kh:=[0,8,56,20208,5000,5001,5002,5003]) (q:=True/\True/\True/\(0<=(x13:Int)/\(x13:Int) < (↑(r.found.length):Int))/\True/\True/\True/\True) (st':=ASt.mk [(1,.ptr 0 []),(2,.ptr 8 []),(3,.ptr 56 []),(5,iv (x13:Int)),(6,.ptr 20208 [])] [(0,.cells 25 (cRun r)),(8,.cells 25 [iv 0,iv 0,nilv,nilv]),(56,.cells 25 [iv r.plates,iv r.last,.vec 5000,.vec 5001]),(20208,.cells 32 (cFnd (fnd r x13))),(5000,.vecx 42 2 r.machines.length (fun (k:Nat)=>cMach (mach r k)) jm [.vec 5002,iv (mach r jm).rate]),(5001,.vecx 32 3 x13 (fun (k:Nat)=>cFnd (fnd r k)) jf [iv (fnd r jf).minute,.vec 5003,aInts (fnd r jf).frm]),(5002,.vec 37 2 (chLen r jm r.machines.length) fun (p:Nat)=>cSpan (chg (mach r jm) p)),(5003,.vec 3 1 (nwLen r jf x13) fun (p:Nat)=>[iv ((fnd r jf).new.getD p 0)])] 20224) (by kernel_rfl) ⟨tv,tv,tv,⟨(o35 hp x0 hx0 h1 x13 hx13 h19),(o36 hp x0 hx0 h1 x13 hx13 h19)⟩,tv,tv,tv,tv⟩ ?_
   refine swp_cases (eqN x13 jf) (fun h20 => ?_) (fun h20 => ?_)
   ·refine swp_region T0_ok mixed (cs:=[(13,focS),(14,focS)]) (kt:=[1,2,3,5]) (kh:=[0,8,56,5000,20336,20280,20312,5002]) (q:=True/\True/\True/\True/\True/\True/\True/\0 + (fnd r x13).new.length<=65536/\True/\True/\True/\0 + (fnd r x13).frm.length<=65536/\True/\True/\(x13 + 1<=65536/\jf=x13)/\True/\True/\True) (st':=ASt.mk [(1,.ptr 0 []),(2,.ptr 8 []),(3,.ptr 56 []),(5,iv (x13:Int))] [(0,.cells 25 (cRun r)),(8,.cells 25 [iv 0,iv 0,nilv,nilv]),(56,.cells 25 [iv r.plates,iv r.last,.vec 5000,.vec 20336]),(5000,.vecx 42 2 r.machines.length (fun (k:Nat)=>cMach (mach r k)) jm [.vec 5002,iv (mach r jm).rate]),(20336,.vecx 32 3 (x13 + 1) (fun (k:Nat)=>cFnd (fnd r k)) jf [iv (fnd r x13).minute,.vec 20280,.vec 20312]),(20280,.vec 3 1 (0 + (fnd r x13).new.length) fun (i:Nat)=>[iv ((fnd r x13).new.getD i 0)]),(20312,.vec 3 1 (0 + (fnd r x13).frm.length) fun (i:Nat)=>[iv ((fnd r x13).frm.getD i 0)]),(5002,.vec 37 2 (chLen r jm r.machines.length) fun (p:Nat)=>cSpan (chg (mach r jm) p))] 20360) (by kernel_rfl) ⟨tv,tv,tv,tv,tv,tv,tv,(o37 hp x0 hx0 h1 x13 hx13 h19 h20),tv,tv,tv,(o38 hp x0 hx0 h1 x13 hx13 h19 h20),tv,tv,⟨(o39 hp x0 hx0 h1 x13 hx13 h19 h20),(o40 hp x0 hx0 h1 x13 hx13 h19 h20)⟩,tv,tv,tv⟩ ?_
    refine sR (kt:=[1,2,3,5]) (kh:=[0,8,56,5000,20336,5002,20280,20312]) (q:=True/\inI ((x13:Int) + 1)/\True/\True) (st':=ASt.mk [(1,.ptr 0 []),(2,.ptr 8 []),(3,.ptr 56 []),(5,iv ((x13:Int) + 1))] [(0,.cells 25 (cRun r)),(8,.cells 25 [iv 0,iv 0,nilv,nilv]),(56,.cells 25 [iv r.plates,iv r.last,.vec 5000,.vec 20336]),(5000,.vecx 42 2 r.machines.length (fun (k:Nat)=>cMach (mach r k)) jm [.vec 5002,iv (mach r jm).rate]),(20336,.vecx 32 3 (x13 + 1) (fun (k:Nat)=>cFnd (fnd r k)) jf [iv (fnd r x13).minute,.vec 20280,.vec 20312]),(5002,.vec 37 2 (chLen r jm r.machines.length) fun (p:Nat)=>cSpan (chg (mach r jm) p)),(20280,.vec 3 1 (0 + (fnd r x13).new.length) fun (i:Nat)=>[iv ((fnd r x13).new.getD i 0)]),(20312,.vec 3 1 (0 + (fnd r x13).frm.length) fun (i:Nat)=>[iv ((fnd r x13).frm.getD i 0)])] 20384) (by kernel_rfl) ⟨tv,(o41 hp x0 hx0 h1 x13 hx13 h19 h20),tv,tv⟩ ?_
    exact loop_next (Hint.ann (h20xb r jm jf) [(1,AV.ptr 0 []),(2,AV.ptr 8 []),(3,AV.ptr 56 [])] [(0,OB.cells 25 (cRun r)),(8,OB.cells 25 [iv 0,iv 0,nilv,nilv])] 20128) x13 (ent_q hE [20312] [(0,.same 0),(8,.same 8),(56,.same 56),(5000,.same 5000),(5002,.same 5002),(5001,.same 20336),(5003,.same 20280)] [] [0,8,5002] (((some (Src.same 0)=some (Src.same 0)/\nilP = [])/\(some (Src.same 8)=some (Src.same 8)/\nilP = [])/\(some (Src.same 56)=some (Src.same 56)/\nilP = [])/\(iv ((x13:Int) + 1)=iv (↑(x13 + 1):Int)/\nilN = [])/\True)/\((OB.cells 25 (cRun r)=OB.cells 25 (cRun r)/\true=true)/\(OB.cells 25 [iv 0,iv 0,nilv,nilv]=OB.cells 25 [iv 0,iv 0,nilv,nilv]/\true=true)/\(25=25/\((iv r.plates=iv r.plates/\nilN = [])/\(iv r.last=iv r.last/\nilN = [])/\some (Src.same 5000)=some (Src.same 5000)/\some (Src.same 20336)=some (Src.same 20336)/\True)/\true=true)/\(42=42/\2=2/\r.machines.length=r.machines.length/\jm=jm/\(∀ (i21:Nat),i21 < r.machines.length->i21 ≠ jm->cMach (mach r i21)=cMach (mach r i21))/\(some (Src.same 5002)=some (Src.same 5002)/\(iv (mach r jm).rate=iv (mach r jm).rate/\nilN = [])/\True)/\true=true)/\(((OB.vec 37 2 (chLen r jm r.machines.length) fun (p:Nat)=>cSpan (chg (mach r jm) p))=OB.vec 37 2 (chLen r jm r.machines.length) fun (p:Nat)=>cSpan (chg (mach r jm) p))/\true=true)/\(32=32/\3=3/\x13 + 1=x13 + 1/\jf=jf/\(∀ (i24:Nat),i24 < x13 + 1->i24 ≠ jf->cFnd (fnd r i24)=cFnd (fnd r i24))/\((iv (fnd r x13).minute=iv (fnd r jf).minute/\nilN = [])/\some (Src.same 20280)=some (Src.same 20280)/\(1=1/\0 + (fnd r x13).frm.length=(fnd r jf).frm.length /\ ∀ (i27:Nat),i27 < (fnd r jf).frm.length -> [iv ((fnd r x13).frm.getD i27 0)] = [iv ((fnd r jf).frm.getD i27 0)])/\True)/\true=true)/\(3=3/\1=1/\0 + (fnd r x13).new.length=nwLen r jf (x13 + 1) /\ ∀ (i29:Nat),i29 < 0 + (fnd r x13).new.length -> [iv ((fnd r x13).new.getD i29 0)] = [iv ((fnd r jf).new.getD i29 0)])/\True)/\T2) (by kernel_rfl) (by kernel_rfl) ⟨⟨⟨rfl,rfl⟩,⟨rfl,rfl⟩,⟨rfl,rfl⟩,⟨(congrArg iv (o42 hp x0 hx0 h1 x13 hx13 h19 h20)),rfl⟩,tv⟩,⟨⟨rfl,rfl⟩,⟨rfl,rfl⟩,⟨rfl,⟨⟨rfl,rfl⟩,⟨rfl,rfl⟩,rfl,rfl,tv⟩,rfl⟩,⟨rfl,rfl,rfl,rfl,(fun i21=>(fun h22=>(fun h23=>rfl))),⟨rfl,⟨rfl,rfl⟩,tv⟩,rfl⟩,⟨rfl,rfl⟩,⟨rfl,rfl,rfl,rfl,(fun i24=>(fun h25=>(fun h26=>rfl))),⟨⟨(congrArg iv (o43 hp x0 hx0 h1 x13 hx13 h19 h20)),rfl⟩,rfl,⟨rfl,(o44 hp x0 hx0 h1 x13 hx13 h19 h20),(fun i27=>(fun h28=>(o45 hp x0 hx0 h1 x13 hx13 h19 h20 i27 h28)))⟩,tv⟩,rfl⟩,⟨rfl,rfl,(o46 hp x0 hx0 h1 x13 hx13 h19 h20),(fun i29=>(fun h30=>(o47 hp x0 hx0 h1 x13 hx13 h19 h20 i29 h30)))⟩,tv⟩,rfl,rfl⟩) (o48 hp x0 hx0 h1 x13 hx13 h19 h20) (o49 hp x0 hx0 h1 x13 hx13 h19 h20)
   ·refine sR (kt:=[1,2,3,5]) (kh:=[0,8,56,5000,20336,5003,5002]) (q:=True/\True/\True/\True/\True/\True/\True/\0 + (fnd r x13).new.length<=65536/\True/\True/\True/\0 + (fnd r x13).frm.length<=65536/\True/\True/\(x13 + 1<=65536/\(jf < x13 ∨ x13 + 1<=jf))/\True/\True/\True) (st':=ASt.mk [(1,.ptr 0 []),(2,.ptr 8 []),(3,.ptr 56 []),(5,iv (x13:Int))] [(0,.cells 25 (cRun r)),(8,.cells 25 [iv 0,iv 0,nilv,nilv]),(56,.cells 25 [iv r.plates,iv r.last,.vec 5000,.vec 20336]),(5000,.vecx 42 2 r.machines.length (fun (k:Nat)=>cMach (mach r k)) jm [.vec 5002,iv (mach r jm).rate]),(20336,.vecx 32 3 (x13 + 1) (catF x13 (fun (k:Nat)=>cFnd (fnd r k)) fun (j:Nat)=>List.getD [[iv (fnd r x13).minute,.sl 1 (0 + (fnd r x13).new.length) fun (i:Nat)=>[iv ((fnd r x13).new.getD i 0)],.sl 1 (0 + (fnd r x13).frm.length) fun (i:Nat)=>[iv ((fnd r x13).frm.getD i 0)]]] j (TI.za ti32)) jf [iv (fnd r jf).minute,.vec 5003,aInts (fnd r jf).frm]),(5003,.vec 3 1 (nwLen r jf x13) fun (p:Nat)=>[iv ((fnd r jf).new.getD p 0)]),(5002,.vec 37 2 (chLen r jm r.machines.length) fun (p:Nat)=>cSpan (chg (mach r jm) p))] 20360) (by kernel_rfl) ⟨tv,tv,tv,tv,tv,tv,tv,(o50 hp x0 hx0 h1 x13 hx13 h19 h20),tv,tv,tv,(o51 hp x0 hx0 h1 x13 hx13 h19 h20),tv,tv,⟨(o52 hp x0 hx0 h1 x13 hx13 h19 h20),(o53 hp x0 hx0 h1 x13 hx13 h19 h20)⟩,tv,tv,tv⟩ ?_
    refine sR (kt:=[1,2,3,5]) (kh:=[0,8,56,5000,20336,5002,5003]) (q:=True/\inI ((x13:Int) + 1)/\True/\True) (st':=ASt.mk [(1,.ptr 0 []),(2,.ptr 8 []),(3,.ptr 56 []),(5,iv ((x13:Int) + 1))] [(0,.cells 25 (cRun r)),(8,.cells 25 [iv 0,iv 0,nilv,nilv]),(56,.cells 25 [iv r.plates,iv r.last,.vec 5000,.vec 20336]),(5000,.vecx 42 2 r.machines.length (fun (k:Nat)=>cMach (mach r k)) jm [.vec 5002,iv (mach r jm).rate]),(20336,.vecx 32 3 (x13 + 1) (catF x13 (fun (k:Nat)=>cFnd (fnd r k)) fun (j:Nat)=>List.getD [[iv (fnd r x13).minute,.sl 1 (0 + (fnd r x13).new.length) fun (i:Nat)=>[iv ((fnd r x13).new.getD i 0)],.sl 1 (0 + (fnd r x13).frm.length) fun (i:Nat)=>[iv ((fnd r x13).frm.getD i 0)]]] j (TI.za ti32)) jf [iv (fnd r jf).minute,.vec 5003,aInts (fnd r jf).frm]),(5002,.vec 37 2 (chLen r jm r.machines.length) fun (p:Nat)=>cSpan (chg (mach r jm) p)),(5003,.vec 3 1 (nwLen r jf x13) fun (p:Nat)=>[iv ((fnd r jf).new.getD p 0)])] 20384) (by kernel_rfl) ⟨tv,(o54 hp x0 hx0 h1 x13 hx13 h19 h20),tv,tv⟩ ?_
    exact loop_next (Hint.ann (h20xb r jm jf) [(1,AV.ptr 0 []),(2,AV.ptr 8 []),(3,AV.ptr 56 [])] [(0,OB.cells 25 (cRun r)),(8,OB.cells 25 [iv 0,iv 0,nilv,nilv])] 20128) x13 (ent_q hE [] [(0,.same 0),(8,.same 8),(56,.same 56),(5000,.same 5000),(5002,.same 5002),(5001,.same 20336),(5003,.same 5003)] [] [0,8,5002] (((some (Src.same 0)=some (Src.same 0)/\nilP = [])/\(some (Src.same 8)=some (Src.same 8)/\nilP = [])/\(some (Src.same 56)=some (Src.same 56)/\nilP = [])/\(iv ((x13:Int) + 1)=iv (↑(x13 + 1):Int)/\nilN = [])/\True)/\((OB.cells 25 (cRun r)=OB.cells 25 (cRun r)/\true=true)/\(OB.cells 25 [iv 0,iv 0,nilv,nilv]=OB.cells 25 [iv 0,iv 0,nilv,nilv]/\true=true)/\(25=25/\((iv r.plates=iv r.plates/\nilN = [])/\(iv r.last=iv r.last/\nilN = [])/\some (Src.same 5000)=some (Src.same 5000)/\some (Src.same 20336)=some (Src.same 20336)/\True)/\true=true)/\(42=42/\2=2/\r.machines.length=r.machines.length/\jm=jm/\(∀ (i31:Nat),i31 < r.machines.length->i31 ≠ jm->cMach (mach r i31)=cMach (mach r i31))/\(some (Src.same 5002)=some (Src.same 5002)/\(iv (mach r jm).rate=iv (mach r jm).rate/\nilN = [])/\True)/\true=true)/\(((OB.vec 37 2 (chLen r jm r.machines.length) fun (p:Nat)=>cSpan (chg (mach r jm) p))=OB.vec 37 2 (chLen r jm r.machines.length) fun (p:Nat)=>cSpan (chg (mach r jm) p))/\true=true)/\(32=32/\3=3/\x13 + 1=x13 + 1/\jf=jf/\(∀ (i34:Nat),i34 < x13 + 1->i34 ≠ jf->catF x13 (fun (k:Nat)=>cFnd (fnd r k)) (fun (j:Nat)=>List.getD [[iv (fnd r x13).minute,AV.sl 1 (0 + (fnd r x13).new.length) fun (i:Nat)=>[iv ((fnd r x13).new.getD i 0)],AV.sl 1 (0 + (fnd r x13).frm.length) fun (i:Nat)=>[iv ((fnd r x13).frm.getD i 0)]]] j (TI.za ti32)) i34=cFnd (fnd r i34))/\((iv (fnd r jf).minute=iv (fnd r jf).minute/\nilN = [])/\some (Src.same 5003)=some (Src.same 5003)/\(1=1/\(fnd r jf).frm.length=(fnd r jf).frm.length /\ ∀ (i37:Nat),i37 < (fnd r jf).frm.length -> [iv ((fnd r jf).frm.getD i37 0)] = [iv ((fnd r jf).frm.getD i37 0)])/\True)/\true=true)/\(3=3/\1=1/\nwLen r jf x13=nwLen r jf (x13 + 1) /\ ∀ (i39:Nat),i39 < nwLen r jf x13 -> [iv ((fnd r jf).new.getD i39 0)] = [iv ((fnd r jf).new.getD i39 0)])/\True)/\T2) (by kernel_rfl) (by kernel_rfl) ⟨⟨⟨rfl,rfl⟩,⟨rfl,rfl⟩,⟨rfl,rfl⟩,⟨(congrArg iv (o55 hp x0 hx0 h1 x13 hx13 h19 h20)),rfl⟩,tv⟩,⟨⟨rfl,rfl⟩,⟨rfl,rfl⟩,⟨rfl,⟨⟨rfl,rfl⟩,⟨rfl,rfl⟩,rfl,rfl,tv⟩,rfl⟩,⟨rfl,rfl,rfl,rfl,(fun i31=>(fun h32=>(fun h33=>rfl))),⟨rfl,⟨rfl,rfl⟩,tv⟩,rfl⟩,⟨rfl,rfl⟩,⟨rfl,rfl,rfl,rfl,(fun i34=>(fun h35=>(fun h36=>(o56 hp x0 hx0 h1 x13 hx13 h19 h20 i34 h35 h36)))),⟨⟨rfl,rfl⟩,rfl,⟨rfl,rfl,(fun i37=>(fun h38=>rfl))⟩,tv⟩,rfl⟩,⟨rfl,rfl,(o57 hp x0 hx0 h1 x13 hx13 h19 h20),(fun i39=>(fun h40=>rfl))⟩,tv⟩,rfl,rfl⟩) (o58 hp x0 hx0 h1 x13 hx13 h19 h20) (o59 hp x0 hx0 h1 x13 hx13 h19 h20)
  ·refine swp_exit (swp_seq ?_)
   refine sR (kt:=[2]) (kh:=[8,5000,5001,5002,5003]) (q:=True/\True/\True) (st':=ASt.mk [(2,.ptr 8 [])] [(8,.cells 25 [iv r.plates,iv r.last,.vec 5000,.vec 5001]),(5000,.vecx 42 2 r.machines.length (fun (k:Nat)=>cMach (mach r k)) jm [.vec 5002,iv (mach r jm).rate]),(5001,.vecx 32 3 x13 (fun (k:Nat)=>cFnd (fnd r k)) jf [iv (fnd r jf).minute,.vec 5003,aInts (fnd r jf).frm]),(5002,.vec 37 2 (chLen r jm r.machines.length) fun (p:Nat)=>cSpan (chg (mach r jm) p)),(5003,.vec 3 1 (nwLen r jf x13) fun (p:Nat)=>[iv ((fnd r jf).new.getD p 0)])] 20184) (by kernel_rfl) ⟨tv,tv,tv⟩ ?_
   refine swp_ret ?_
   exact ret_o (ASt.mk [(2,AV.ptr 90 [])] [(90,OB.cells 25 [iv r.plates,iv r.last,AV.vec 0,AV.vec 1]),(0,OB.vecx 42 2 r.machines.length (fun (k:Nat)=>cMach (mach r k)) jm [AV.vec 2,iv (mach r jm).rate]),(1,OB.vecx 32 3 r.found.length (fun (k:Nat)=>cFnd (fnd r k)) jf [iv (fnd r jf).minute,AV.vec 3,aInts (fnd r jf).frm]),(2,OB.vec 37 2 (chLen r jm r.machines.length) fun (p:Nat)=>cSpan (chg (mach r jm) p)),(3,OB.vec 3 1 (nwLen r jf r.found.length) fun (p:Nat)=>[iv ((fnd r jf).new.getD p 0)])] 100) (ent_q hE [] [(90,.same 8),(0,.same 5000),(2,.same 5002),(1,.same 5001),(3,.same 5003)] [] [] (((some (Src.same 8)=some (Src.same 8)/\nilP = [])/\True)/\((25=25/\((iv r.plates=iv r.plates/\nilN = [])/\(iv r.last=iv r.last/\nilN = [])/\some (Src.same 5000)=some (Src.same 5000)/\some (Src.same 5001)=some (Src.same 5001)/\True)/\true=true)/\(42=42/\2=2/\r.machines.length=r.machines.length/\jm=jm/\(∀ (i41:Nat),i41 < r.machines.length->i41 ≠ jm->cMach (mach r i41)=cMach (mach r i41))/\(some (Src.same 5002)=some (Src.same 5002)/\(iv (mach r jm).rate=iv (mach r jm).rate/\nilN = [])/\True)/\true=true)/\(32=32/\3=3/\x13=r.found.length/\jf=jf/\(∀ (i44:Nat),i44 < x13->i44 ≠ jf->cFnd (fnd r i44)=cFnd (fnd r i44))/\((iv (fnd r jf).minute=iv (fnd r jf).minute/\nilN = [])/\some (Src.same 5003)=some (Src.same 5003)/\(1=1/\(fnd r jf).frm.length=(fnd r jf).frm.length /\ ∀ (i47:Nat),i47 < (fnd r jf).frm.length -> [iv ((fnd r jf).frm.getD i47 0)] = [iv ((fnd r jf).frm.getD i47 0)])/\True)/\true=true)/\(37=37/\2=2/\chLen r jm r.machines.length=chLen r jm r.machines.length /\ ∀ (i49:Nat),i49 < chLen r jm r.machines.length->cSpan (chg (mach r jm) i49)=cSpan (chg (mach r jm) i49))/\(3=3/\1=1/\nwLen r jf x13=nwLen r jf r.found.length /\ ∀ (i51:Nat),i51 < nwLen r jf x13 -> [iv ((fnd r jf).new.getD i51 0)] = [iv ((fnd r jf).new.getD i51 0)])/\True)/\T2) (by kernel_rfl) (by kernel_rfl) ⟨⟨⟨rfl,rfl⟩,tv⟩,⟨⟨rfl,⟨⟨rfl,rfl⟩,⟨rfl,rfl⟩,rfl,rfl,tv⟩,rfl⟩,⟨rfl,rfl,rfl,rfl,(fun i41=>(fun h42=>(fun h43=>rfl))),⟨rfl,⟨rfl,rfl⟩,tv⟩,rfl⟩,⟨rfl,rfl,(o60 hp x0 hx0 h1 x13 hx13 h19),rfl,(fun i44=>(fun h45=>(fun h46=>rfl))),⟨⟨rfl,rfl⟩,rfl,⟨rfl,rfl,(fun i47=>(fun h48=>rfl))⟩,tv⟩,rfl⟩,⟨rfl,rfl,rfl,(fun i49=>(fun h50=>rfl))⟩,⟨rfl,rfl,(o61 hp x0 hx0 h1 x13 hx13 h19),(fun i51=>(fun h52=>rfl))⟩,tv⟩,rfl,rfl⟩) ((True/\True)/\AV.agg [iv r.plates,iv r.last,AV.vec 0,AV.vec 1]=AV.agg [iv r.plates,iv r.last,AV.vec 0,AV.vec 1]/\some (OB.vecx 42 2 r.machines.length (fun (k:Nat)=>cMach (mach r k)) jm [AV.vec 2,iv (mach r jm).rate])=some (OB.vecx 42 2 r.machines.length (fun (k:Nat)=>cMach (mach r k)) jm [AV.vec 2,iv (mach r jm).rate])/\some (OB.vecx 32 3 r.found.length (fun (k:Nat)=>cFnd (fnd r k)) jf [iv (fnd r jf).minute,AV.vec 3,aInts (fnd r jf).frm])=some (OB.vecx 32 3 r.found.length (fun (k:Nat)=>cFnd (fnd r k)) jf [iv (fnd r jf).minute,AV.vec 3,aInts (fnd r jf).frm])/\some (OB.vec 37 2 (chLen r jm r.machines.length) fun (p:Nat)=>cSpan (chg (mach r jm) p))=some (OB.vec 37 2 (chLen r jm r.machines.length) fun (p:Nat)=>cSpan (chg (mach r jm) p))/\some (OB.vec 3 1 (nwLen r jf r.found.length) fun (p:Nat)=>[iv ((fnd r jf).new.getD p 0)])=some (OB.vec 3 1 (nwLen r jf r.found.length) fun (p:Nat)=>[iv ((fnd r jf).new.getD p 0)])/\True) (by kernel_rfl) ⟨⟨tv,tv⟩,rfl,rfl,rfl,rfl,rfl,tv⟩
theorem to20 (r:Run) (jm jf:Nat) (l:List (Nat × Nat)) (hl:l.map (·.1) = [0,1,2,3]) (hnd:(l.map (·.2)).Nodup):Triple Try.prog 20 ((ou20 r jm jf).at l):=by
  apply wo20
  case hl=>exact hl
  case hnd=>exact hnd
  all_goals (first
    | ((repeat intro _) <;> (try simp only [v0,v1,v2,v3,v4,v5,v6,v7,v8,v9,inI,fits,Go.Sh.small] at *) <;> first | (exact rfl) | omega | exact vz | (simp_all; done) | (simp_all; omega))
    | (intro hp; first | rfl | (simp [chLen]; done) | (simp [nwLen]; done))
    | (intro hp x hx hl2
       have h1:(mach r x).changes.length<=65536:=hp.2.2.1 x
       have h2:=hp.1
       have h3:=hp.2.1
       simp only [decide_eq_true_eq,decide_eq_false_iff_not] at hl2
       first
       | omega
       | (rw [show x=r.machines.length by omega]; done)
       | (rw [nwLen,if_neg (Nat.not_lt_zero _)]; done)
       | (intro e
          first
          | (have e2:=eqN_t e
             subst e2
             first
             | omega
             | (simp only [inI]; omega)
             | rfl
             | (rw [chLen_self]; omega)
             | (intro i hi; rfl))
          | (have e2:=eqN_f e
             first
             | omega
             | (simp only [inI]; omega)
             | (rw [chLen_other e2]; done)
             | (intro i hi hij; exact catF_idx (fun k=>cMach (mach r k)) (by simp only [cMach,aSpans,cSpan,Nat.zero_add]) hi)))
       | (intro y hy hyl
          have h4:=(hp.2.2.2 y).1
          have h5:=(hp.2.2.2 y).2
          simp only [decide_eq_true_eq,decide_eq_false_iff_not] at hyl
          first
          | omega
          | (rw [show y=r.found.length by omega]; done)
          | (intro e
             first
             | (have e2:=eqN_t e
                subst e2
                first
                | omega
                | (simp only [inI]; omega)
                | rfl
                | (rw [nwLen_self]; omega)
                | (intro i hi; rfl))
             | (have e2:=eqN_f e
                first
                | omega
                | (simp only [inI]; omega)
                | (rw [nwLen_other e2]; done)
                | (intro i hi hij; exact catF_idx (fun k=>cFnd (fnd r k)) (by simp only [cFnd,aInts,Nat.zero_add]) hi))))))
def s20o (r:Run) (jm jf:Nat) (id:Nat):CallSpec:=(ou20 r jm jf).at [(0,id),(1,id + 1),(2,id + 2),(3,id + 3)]
theorem t20o (r:Run) (jm jf:Nat) (id:Nat):Triple Try.prog 20 (s20o r jm jf id):=to20 r jm jf _ rfl (by simp)
end Go.Ab
namespace Go.Sh
def exR:Run:=⟨2,10,[⟨[⟨2,5⟩,⟨2,8⟩],3⟩,⟨[⟨4,9⟩,⟨0,9⟩],5⟩],[⟨4,[1,0],[0,1]⟩,⟨6,[-1,1],[0,1]⟩,⟨3,[0,-1],[0]⟩]⟩
def exQ:Run:=⟨2,10,[⟨[⟨2,5⟩,⟨2,8⟩],3⟩,⟨[⟨4,9⟩,⟨0,9⟩],5⟩],[⟨4,[1,0],[0,1]⟩,⟨6,[0,1],[0,1]⟩,⟨3,[0,-1],[0]⟩]⟩
end Go.Sh
namespace Go.Ab
open Go Go.RowKit Go.Proofs Go.Sh Go.En
def s77:CallSpec:={ args:=[],res := .tup [vRun exR,vRun exQ] }
def c77 (id:Nat):CallSpec:=s20o exR 2 1 id
def s77o (r q:Run):CallSpec:={ args:=[],res := .tup [vRun r,vRun q],pre:=r=exR/\q=exQ }
def sw19 (r q:Run):CallSpec:={ args:=[],res:=bv true,pre:=r=exR/\q=exQ }
def c19a (r q:Run):CallSpec:=s77o r q
def c19 (r q:Run):CallSpec:=s37 (whereS q 1) [1]
def s19:CallSpec:={ args:=[],res:=bv true }
end Go.Ab
namespace Go.Ab
open Go Go.RowKit Go.Proofs Go.Sh Go.En
theorem w77 
 (o0:2=Run.plates exR)
 (o1:10=Run.last exR)
 (o2:∀ (i4:Nat),i4 < exR.machines.length->List.getD [[AV.sl 2 2 fun (j:Nat)=>List.getD [[iv 2,iv 5],[iv 2,iv 8]] j (TI.za ti37),iv 3],[AV.sl 2 2 fun (j:Nat)=>List.getD [[iv 4,iv 9],[iv 0,iv 9]] j (TI.za ti37),iv 5]] i4 (TI.za ti42)=cMach (mach exR i4))
 (o3:∀ (i6:Nat),i6 < exR.found.length->List.getD [[iv 4,AV.sl 1 2 fun (j:Nat)=>List.getD [[iv 1],[iv 0]] j (TI.za ti3),AV.sl 1 2 fun (j:Nat)=>List.getD [[iv 0],[iv 1]] j (TI.za ti3)],[iv 6,AV.sl 1 2 fun (j:Nat)=>List.getD [[iv (-1)],[iv 1]] j (TI.za ti3),AV.sl 1 2 fun (j:Nat)=>List.getD [[iv 0],[iv 1]] j (TI.za ti3)],[iv 3,AV.sl 1 2 fun (j:Nat)=>List.getD [[iv 0],[iv (-1)]] j (TI.za ti3),AV.sl 1 1 fun (j:Nat)=>List.getD [[iv 0]] j (TI.za ti3)]] i6 (TI.za ti32)=cFnd (fnd exR i6))
 (o4:small exR)
 (o5:∀ (i12:Nat),i12 < (mach exR 2).changes.length->cSpan (chg (mach exR 2) i12) = [iv ((mach exR 2).changes.getD i12 default).lo,iv ((mach exR 2).changes.getD i12 default).hi])
 (o6:∀ (i14:Nat),i14 < exR.found.length->i14 ≠ 1->cFnd (fnd exR i14)=cFnd (fnd exQ i14))
 (o7:Fnd.minute (fnd exR 1)=Fnd.minute (fnd exQ 1))
 (o8:∀ (i17:Nat),i17 < (fnd exQ 1).new.length->Decidable.rec (fun (h:¬i17=0)=>[iv ((fnd exR 1).new.getD i17 0)]) (fun (h:i17=0)=>[iv 0] ++ []) (instDecidableEqNat i17 0) = [iv ((fnd exQ 1).new.getD i17 0)])
 (o9:∀ (i19:Nat),i19 < (fnd exQ 1).frm.length -> [iv ((fnd exR 1).frm.getD i19 0)] = [iv ((fnd exQ 1).frm.getD i19 0)])
 (o10:Run.plates exR=Run.plates exQ)
 (o11:Run.last exR=Run.last exQ)
 (o12:∀ (i21:Nat),i21 < exQ.machines.length->cMach (mach exR i21)=cMach (mach exQ i21)) :
  Triple Try.prog 77 (s77):=by
 refine triple_of Try.func77 rfl Try.call77 T0_ok _ rfl rfl rfl rfl (Nat.le_of_ble_eq_true (by kernel_rfl)) (fun _ _ _ _ h=>h) ?_
 intro _ C hC _ hE
 obtain ⟨P,w0,E0,av,hA⟩:=C
 subst hC
 refine swp_seq ?_
 refine sR (kt:=[0,1]) (kh:=[0,8]) (q:=True/\True/\True) (st':=ASt.mk [(0,.ptr 0 []),(1,.ptr 8 [])] [(0,.cells 25 [iv 0,iv 0,nilv,nilv]),(8,.cells 25 [iv 0,iv 0,nilv,nilv])] 16) (by kernel_rfl) ⟨tv,tv,tv⟩ ?_
 refine swp_seq ?_
 refine swp_region T0_ok mixed (cs:=[(0,CallSpec.eq (s29 2 5) [true,true]),(1,CallSpec.eq (s29 2 8) [true,true]),(4,CallSpec.eq (s29 4 9) [true,true]),(5,CallSpec.eq (s29 0 9) [true,true])]) (kt:=[0,1]) (kh:=[0,8,80,160]) (q:=((iv 2=iv 2/\iv 5=iv 5/\True)/\Triple Try.prog 29 (s29 2 5)/\True/\True /\ ∀ (i0:Env),True)/\((iv 2=iv 2/\iv 8=iv 8/\True)/\Triple Try.prog 29 (s29 2 8)/\True/\True /\ ∀ (i1:Env),True)/\True/\True/\((iv 4=iv 4/\iv 9=iv 9/\True)/\Triple Try.prog 29 (s29 4 9)/\True/\True /\ ∀ (i2:Env),True)/\((iv 0=iv 0/\iv 9=iv 9/\True)/\Triple Try.prog 29 (s29 0 9)/\True/\True /\ ∀ (i3:Env),True)/\True/\True/\True/\True/\True/\True/\True/\True/\True/\True/\True/\True/\True/\True/\True/\True) (st':=ASt.mk [(0,.ptr 0 []),(1,.ptr 8 [])] [(0,.cells 25 [iv 2,iv 10,.vec 80,.vec 160]),(8,.cells 25 [iv 0,iv 0,nilv,nilv]),(80,.vec 42 2 2 fun (j:Nat)=>List.getD [[.sl 2 2 fun (j:Nat)=>List.getD [[iv 2,iv 5],[iv 2,iv 8]] j (TI.za ti37),iv 3],[.sl 2 2 fun (j:Nat)=>List.getD [[iv 4,iv 9],[iv 0,iv 9]] j (TI.za ti37),iv 5]] j (TI.za ti42)),(160,.vec 32 3 3 fun (j:Nat)=>List.getD [[iv 4,.sl 1 2 fun (j:Nat)=>List.getD [[iv 1],[iv 0]] j (TI.za ti3),.sl 1 2 fun (j:Nat)=>List.getD [[iv 0],[iv 1]] j (TI.za ti3)],[iv 6,.sl 1 2 fun (j:Nat)=>List.getD [[iv (-1)],[iv 1]] j (TI.za ti3),.sl 1 2 fun (j:Nat)=>List.getD [[iv 0],[iv 1]] j (TI.za ti3)],[iv 3,.sl 1 2 fun (j:Nat)=>List.getD [[iv 0],[iv (-1)]] j (TI.za ti3),.sl 1 1 fun (j:Nat)=>List.getD [[iv 0]] j (TI.za ti3)]] j (TI.za ti32))] 184) (by kernel_rfl) ⟨⟨⟨rfl,rfl,tv⟩,(t29 (2) (5)),tv,tv,(fun i0=>tv)⟩,⟨⟨rfl,rfl,tv⟩,(t29 (2) (8)),tv,tv,(fun i1=>tv)⟩,tv,tv,⟨⟨rfl,rfl,tv⟩,(t29 (4) (9)),tv,tv,(fun i2=>tv)⟩,⟨⟨rfl,rfl,tv⟩,(t29 (0) (9)),tv,tv,(fun i3=>tv)⟩,tv,tv,tv,tv,tv,tv,tv,tv,tv,tv,tv,tv,tv,tv,tv,tv⟩ ?_
 refine swp_seq ?_
 refine swp_ent (ent_q (st2:=ASt.mk [(0,AV.ptr 0 []),(1,AV.ptr 8 [])] [(0,OB.cells 25 (cRun exR)),(8,OB.cells 25 [iv 0,iv 0,nilv,nilv])] 184) hE [80,160] [(0,.same 0),(8,.same 8)] [] [8] (((some (Src.same 0)=some (Src.same 0)/\nilP = [])/\(some (Src.same 8)=some (Src.same 8)/\nilP = [])/\True)/\((25=25/\((iv 2=iv exR.plates/\nilN = [])/\(iv 10=iv exR.last/\nilN = [])/\(2=2/\2=exR.machines.length /\ ∀ (i4:Nat),i4 < exR.machines.length->List.getD [[AV.sl 2 2 fun (j:Nat)=>List.getD [[iv 2,iv 5],[iv 2,iv 8]] j (TI.za ti37),iv 3],[AV.sl 2 2 fun (j:Nat)=>List.getD [[iv 4,iv 9],[iv 0,iv 9]] j (TI.za ti37),iv 5]] i4 (TI.za ti42)=cMach (mach exR i4))/\(3=3/\3=exR.found.length /\ ∀ (i6:Nat),i6 < exR.found.length->List.getD [[iv 4,AV.sl 1 2 fun (j:Nat)=>List.getD [[iv 1],[iv 0]] j (TI.za ti3),AV.sl 1 2 fun (j:Nat)=>List.getD [[iv 0],[iv 1]] j (TI.za ti3)],[iv 6,AV.sl 1 2 fun (j:Nat)=>List.getD [[iv (-1)],[iv 1]] j (TI.za ti3),AV.sl 1 2 fun (j:Nat)=>List.getD [[iv 0],[iv 1]] j (TI.za ti3)],[iv 3,AV.sl 1 2 fun (j:Nat)=>List.getD [[iv 0],[iv (-1)]] j (TI.za ti3),AV.sl 1 1 fun (j:Nat)=>List.getD [[iv 0]] j (TI.za ti3)]] i6 (TI.za ti32)=cFnd (fnd exR i6))/\True)/\true=true)/\(OB.cells 25 [iv 0,iv 0,nilv,nilv]=OB.cells 25 [iv 0,iv 0,nilv,nilv]/\true=true)/\True)/\T2) (by kernel_rfl) (by kernel_rfl) ⟨⟨⟨rfl,rfl⟩,⟨rfl,rfl⟩,tv⟩,⟨⟨rfl,⟨⟨(congrArg iv (o0)),rfl⟩,⟨(congrArg iv (o1)),rfl⟩,⟨rfl,(by decide),(fun i4=>(fun h5=>(o2 i4 h5)))⟩,⟨rfl,(by decide),(fun i6=>(fun h7=>(o3 i6 h7)))⟩,tv⟩,rfl⟩,⟨rfl,rfl⟩,tv⟩,rfl,rfl⟩) ?_
 refine swp_region T0_ok mixed (cs:=[(1,CallSpec.eq (c77 192) [true])]) (kt:=[0,1]) (kh:=[0,8,192,193,195,194]) (q:=True/\((AV.agg (cRun exR)=AV.agg (cRun exR)/\True)/\Triple Try.prog 20 (c77 192)/\small exR/\True /\ ∀ (i8:Env),True)/\True/\True) (st':=ASt.mk [(0,.ptr 0 []),(1,.ptr 8 [])] [(0,.cells 25 (cRun exR)),(8,.cells 25 [iv exR.plates,iv exR.last,.vec 192,.vec 193]),(192,.vecx 42 2 exR.machines.length (fun (k:Nat)=>cMach (mach exR k)) 2 [.vec 194,iv (mach exR 2).rate]),(193,.vecx 32 3 exR.found.length (fun (k:Nat)=>cFnd (fnd exR k)) 1 [iv (fnd exR 1).minute,.vec 195,.sl 1 (fnd exR 1).frm.length fun (i:Nat)=>[iv ((fnd exR 1).frm.getD i 0)]]),(195,.vec 3 1 (nwLen exR 1 exR.found.length) fun (p:Nat)=>[iv ((fnd exR 1).new.getD p 0)]),(194,.vec 37 2 (chLen exR 2 exR.machines.length) fun (p:Nat)=>cSpan (chg (mach exR 2) p))] 208) (by kernel_rfl) ⟨tv,⟨⟨rfl,tv⟩,(t20o (exR) (2) (1) (192)),(o4),tv,(fun i8=>tv)⟩,tv,tv⟩ ?_
 refine swp_seq ?_
 refine sR (kt:=[0,1]) (kh:=[0,8,192,193,194,195]) (q:=True/\True/\(Int.ofNat 0<=Int.ofNat 1/\1 < (↑(exR.found.length):Int))/\True/\(1=1/\1 < exR.found.length/\True)/\(Int.ofNat 0<=Int.ofNat 0/\0 < (↑(nwLen exR 1 exR.found.length):Int))/\(0 < nwLen exR 1 exR.found.length/\True)/\True) (st':=ASt.mk [(0,.ptr 0 []),(1,.ptr 8 [])] [(0,.cells 25 (cRun exR)),(8,.cells 25 [iv exR.plates,iv exR.last,.vec 192,.vec 193]),(192,.vecx 42 2 exR.machines.length (fun (k:Nat)=>cMach (mach exR k)) 2 [.vec 194,iv (mach exR 2).rate]),(193,.vecx 32 3 exR.found.length (fun (k:Nat)=>cFnd (fnd exR k)) 1 [iv (fnd exR 1).minute,.vec 195,.sl 1 (fnd exR 1).frm.length fun (i:Nat)=>[iv ((fnd exR 1).frm.getD i 0)]]),(194,.vec 37 2 (chLen exR 2 exR.machines.length) fun (p:Nat)=>cSpan (chg (mach exR 2) p)),(195,.vec 3 1 (nwLen exR 1 exR.found.length) fun (j:Nat)=>Decidable.rec (fun (h:¬j=0)=>[iv ((fnd exR 1).new.getD j 0)]) (fun (h:j=0)=>[iv 0] ++ []) (instDecidableEqNat j 0))] 264) (by kernel_rfl) ⟨tv,tv,⟨(by decide),(by decide)⟩,tv,⟨rfl,(by decide),tv⟩,⟨(by decide),(by decide)⟩,⟨(by decide),tv⟩,tv⟩ ?_
 refine swp_seq ?_
 refine swp_ent (ent_q (st2:=ASt.mk [(0,AV.ptr 0 []),(1,AV.ptr 8 [])] [(192,OB.vec 42 2 2 fun (k:Nat)=>cMach (mach exR k)),(193,OB.vec 32 3 3 fun (k:Nat)=>cFnd (fnd exQ k)),(0,OB.cells 25 (cRun exR)),(8,OB.cells 25 [iv exR.plates,iv exR.last,AV.vec 192,AV.vec 193])] 264) hE [194,195] [(0,.same 0),(8,.same 8),(192,.same 192),(193,.same 193)] [] [0] (((some (Src.same 0)=some (Src.same 0)/\nilP = [])/\(some (Src.same 8)=some (Src.same 8)/\nilP = [])/\True)/\((42=42/\2=2/\exR.machines.length=2/\(∀ (i9:Nat),i9 < exR.machines.length->i9 ≠ 2->cMach (mach exR i9)=cMach (mach exR i9))/\((2=2/\chLen exR 2 exR.machines.length=(mach exR 2).changes.length /\ ∀ (i12:Nat),i12 < (mach exR 2).changes.length->cSpan (chg (mach exR 2) i12) = [iv ((mach exR 2).changes.getD i12 default).lo,iv ((mach exR 2).changes.getD i12 default).hi])/\(iv (mach exR 2).rate=iv (mach exR 2).rate/\nilN = [])/\True)/\T2)/\(32=32/\3=3/\exR.found.length=3/\(∀ (i14:Nat),i14 < exR.found.length->i14 ≠ 1->cFnd (fnd exR i14)=cFnd (fnd exQ i14))/\((iv (fnd exR 1).minute=iv (fnd exQ 1).minute/\nilN = [])/\(1=1/\nwLen exR 1 exR.found.length=(fnd exQ 1).new.length /\ ∀ (i17:Nat),i17 < (fnd exQ 1).new.length->Decidable.rec (fun (h:¬i17=0)=>[iv ((fnd exR 1).new.getD i17 0)]) (fun (h:i17=0)=>[iv 0] ++ []) (instDecidableEqNat i17 0) = [iv ((fnd exQ 1).new.getD i17 0)])/\(1=1/\(fnd exR 1).frm.length=(fnd exQ 1).frm.length /\ ∀ (i19:Nat),i19 < (fnd exQ 1).frm.length -> [iv ((fnd exR 1).frm.getD i19 0)] = [iv ((fnd exQ 1).frm.getD i19 0)])/\True)/\T2)/\(OB.cells 25 (cRun exR)=OB.cells 25 (cRun exR)/\true=true)/\(25=25/\((iv exR.plates=iv exR.plates/\nilN = [])/\(iv exR.last=iv exR.last/\nilN = [])/\some (Src.same 192)=some (Src.same 192)/\some (Src.same 193)=some (Src.same 193)/\True)/\true=true)/\True)/\T2) (by kernel_rfl) (by kernel_rfl) ⟨⟨⟨rfl,rfl⟩,⟨rfl,rfl⟩,tv⟩,⟨⟨rfl,rfl,(by decide),(fun i9=>(fun h10=>(fun h11=>rfl))),⟨⟨rfl,(by decide),(fun i12=>(fun h13=>(o5 i12 h13)))⟩,⟨rfl,rfl⟩,tv⟩,rfl,rfl⟩,⟨rfl,rfl,(by decide),(fun i14=>(fun h15=>(fun h16=>(o6 i14 h15 h16)))),⟨⟨(congrArg iv (o7)),rfl⟩,⟨rfl,(by decide),(fun i17=>(fun h18=>(o8 i17 h18)))⟩,⟨rfl,(by decide),(fun i19=>(fun h20=>(o9 i19 h20)))⟩,tv⟩,rfl,rfl⟩,⟨rfl,rfl⟩,⟨rfl,⟨⟨rfl,rfl⟩,⟨rfl,rfl⟩,rfl,rfl,tv⟩,rfl⟩,tv⟩,rfl,rfl⟩) ?_
 refine swp_ent (ent_q (st2:=ASt.mk [(0,AV.ptr 0 []),(1,AV.ptr 8 [])] [(8,OB.cells 25 (cRun exQ)),(0,OB.cells 25 (cRun exR))] 264) hE [192,193] [(0,.same 0),(8,.same 8)] [] [0] (((some (Src.same 0)=some (Src.same 0)/\nilP = [])/\(some (Src.same 8)=some (Src.same 8)/\nilP = [])/\True)/\((25=25/\((iv exR.plates=iv exQ.plates/\nilN = [])/\(iv exR.last=iv exQ.last/\nilN = [])/\(2=2/\2=exQ.machines.length /\ ∀ (i21:Nat),i21 < exQ.machines.length->cMach (mach exR i21)=cMach (mach exQ i21))/\(3=3/\3=exQ.found.length /\ ∀ (i23:Nat),i23 < exQ.found.length->cFnd (fnd exQ i23)=cFnd (fnd exQ i23))/\True)/\true=true)/\(OB.cells 25 (cRun exR)=OB.cells 25 (cRun exR)/\true=true)/\True)/\T2) (by kernel_rfl) (by kernel_rfl) ⟨⟨⟨rfl,rfl⟩,⟨rfl,rfl⟩,tv⟩,⟨⟨rfl,⟨⟨(congrArg iv (o10)),rfl⟩,⟨(congrArg iv (o11)),rfl⟩,⟨rfl,(by decide),(fun i21=>(fun h22=>(o12 i21 h22)))⟩,⟨rfl,(by decide),(fun i23=>(fun h24=>rfl))⟩,tv⟩,rfl⟩,⟨rfl,rfl⟩,tv⟩,rfl,rfl⟩) ?_
 refine sR (kt:=[0,1]) (kh:=[0,8]) (q:=True/\True/\True/\True/\True) (st':=ASt.mk [(0,.ptr 0 []),(1,.ptr 8 [])] [(0,.cells 25 (cRun exR)),(8,.cells 25 (cRun exQ))] 296) (by kernel_rfl) ⟨tv,tv,tv,tv,tv⟩ ?_
 refine swp_ret ?_
 exact ret_q [] ((True/\True/\True)/\(((iv exR.plates=iv exR.plates/\nilN = [])/\(iv exR.last=iv exR.last/\nilN = [])/\(2=2/\exR.machines.length=exR.machines.length /\ ∀ (i25:Nat),i25 < exR.machines.length->cMach (mach exR i25)=cMach (mach exR i25))/\(3=3/\exR.found.length=exR.found.length /\ ∀ (i27:Nat),i27 < exR.found.length->cFnd (fnd exR i27)=cFnd (fnd exR i27))/\True)/\((iv exQ.plates=iv exQ.plates/\nilN = [])/\(iv exQ.last=iv exQ.last/\nilN = [])/\(2=2/\exQ.machines.length=exQ.machines.length /\ ∀ (i29:Nat),i29 < exQ.machines.length->cMach (mach exQ i29)=cMach (mach exQ i29))/\(3=3/\exQ.found.length=exQ.found.length /\ ∀ (i31:Nat),i31 < exQ.found.length->cFnd (fnd exQ i31)=cFnd (fnd exQ i31))/\True)/\True)/\T3) (by kernel_rfl) ⟨⟨tv,tv,tv⟩,⟨⟨⟨rfl,rfl⟩,⟨rfl,rfl⟩,⟨rfl,rfl,(fun i25=>(fun h26=>rfl))⟩,⟨rfl,rfl,(fun i27=>(fun h28=>rfl))⟩,tv⟩,⟨⟨rfl,rfl⟩,⟨rfl,rfl⟩,⟨rfl,rfl,(fun i29=>(fun h30=>rfl))⟩,⟨rfl,rfl,(fun i31=>(fun h32=>rfl))⟩,tv⟩,tv⟩,rfl,rfl,rfl⟩
theorem sl_ext {sz n:Nat} {f g:Nat->List AV} (h:∀ j,f j=g j):AV.sl sz n f = .sl sz n g:=by rw [funext h]
theorem cell3 {c a b a' b':AV} (h:a=a') (k:b=b'):[c,a,b] = [c,a',b']:=by rw [h,k]
theorem short_list {α β:Type} {l:List α} {d:α} {f:α->List β} {n:Nat} (h:l.all (fun x=>decide ((f x).length<=n))=true) (hd:(f d).length<=n) (i:Nat):(f (l.getD i d)).length<=n:=by
 by_cases hi:i < l.length
 ·have:=List.all_eq_true.1 h _ (getD_mem l d hi)
  simpa using this
 ·rw [getD_ge _ _ (by omega)]; exact hd
theorem small_exR:small exR:=by
 exact ⟨by decide,by decide,fun i=>short_list (f:=fun m:Mach=>m.changes) (by decide) (by decide) i,fun i=>⟨short_list (f:=fun m:Fnd=>m.new) (by decide) (by decide) i,short_list (f:=fun m:Fnd=>m.frm) (by decide) (by decide) i⟩⟩
theorem small_exQ:small exQ:=by
 exact ⟨by decide,by decide,fun i=>short_list (f:=fun m:Mach=>m.changes) (by decide) (by decide) i,fun i=>⟨short_list (f:=fun m:Fnd=>m.new) (by decide) (by decide) i,short_list (f:=fun m:Fnd=>m.frm) (by decide) (by decide) i⟩⟩
set_option maxRecDepth 4000
theorem x_when:whenS exQ 1 0=⟨7,9⟩:=by decide +kernel
theorem x_old:oldS exR 0=⟨32,57⟩:=by decide +kernel
theorem x_mix:mixesS exR=⟨3,57⟩:=by decide +kernel
theorem x_read:readS exR 2 1=3:=by decide +kernel
theorem x_few:fewP exQ=2:=by decide +kernel
theorem x_ok:openE exQ (whenIs exQ 1 0)=0/\openE exQ (isFound exQ 1)=0/\openE exQ true=0/\openE exR (isPlate exR 0)=0/\openE exR true=0/\openE exR (readIs exR 2 1)=0:=by decide +kernel
theorem x_wf:wf (waysOf exQ) 1 = [1]:=by decide +kernel
theorem x_where:whereS exQ 1 = [1]:=by
 rw [whereS,if_pos x_ok.2.1,whereP]
 show compactI (sortI (wf (waysOf exQ) 1)) = [1]
 rw [x_wf,sortI,List.mergeSort_singleton]
 decide +kernel
theorem t77:Triple Try.prog 77 s77:=by
 apply w77
 case o2 =>
  intro i hi
  have:i=0 ∨ i=1:=by simp [exR] at hi; omega
  rcases this with rfl | rfl
  ·exact congrArg (· :: [iv 3]) (sl_ext fun j=>by rcases j with _ | _ | j <;> rfl)
  ·exact congrArg (· :: [iv 5]) (sl_ext fun j=>by rcases j with _ | _ | j <;> rfl)
 case o3 =>
  intro i hi
  have:i=0 ∨ i=1 ∨ i=2:=by simp [exR] at hi; omega
  rcases this with rfl | rfl | rfl
  ·exact cell3 (sl_ext fun j=>by rcases j with _ | _ | j <;> rfl) (sl_ext fun j=>by rcases j with _ | _ | j <;> rfl)
  ·exact cell3 (sl_ext fun j=>by rcases j with _ | _ | j <;> rfl) (sl_ext fun j=>by rcases j with _ | _ | j <;> rfl)
  ·exact cell3 (sl_ext fun j=>by rcases j with _ | _ | j <;> rfl) (sl_ext fun j=>by rcases j with _ | j <;> rfl)
 case o4=>exact small_exR
 case o6 =>
  intro i hi h1
  have:i=0 ∨ i=2:=by simp [exR] at hi; omega
  rcases this with rfl | rfl <;> rfl
 case o8 =>
  intro i hi
  have:i=0 ∨ i=1:=by simp [fnd,exQ] at hi; omega
  rcases this with rfl | rfl <;> rfl
 all_goals (first | ((repeat intro _) <;> (try simp only [v0,v1,v2,v3,v4,v5,v6,v7,v8,v9,inI,fits,Go.Sh.small] at *) <;> first | (exact rfl) | omega | exact vz | (simp_all; done) | (simp_all; omega)) | skip)
theorem t77o (r q:Run):Triple Try.prog 77 (s77o r q):=⟨t77.1,fun h=>by obtain ⟨rfl,rfl⟩:=h; exact t77.2 trivial⟩
abbrev q19_1 (r:Run) (q:Run) (C:Prop):Prop:=r=exR/\q=exQ->C
abbrev q19_2 (r:Run) (q:Run) (C:Prop):Prop:=q19_1 r q ((bif bif bif bif bif bif decide (openE q (whenIs q 1 0)=0) then decide (openE q (isFound q 1)=0) else false then decide (openE q true=0) else false then decide (openE r (isPlate r 0)=0) else false then decide (openE r true=0) else false then decide (openE r (readIs r 2 1)=0) else false then decide ((whenS q 1 0).lo=7) && (decide ((whenS q 1 0).hi=9) && true) else false)=true->C)
theorem w19 (r:Run) (q:Run)
 (o0:q19_1 r q (fits q))
 (o1:q19_1 r q (fits q))
 (o2:q19_1 r q (fits q))
 (o3:q19_1 r q (fits r))
 (o4:q19_1 r q (fits r))
 (o5:q19_1 r q (fits r))
 (o6:q19_2 r q (∀ (i47:Nat),i47 < List.length [1]->List.getD [[iv 1]] i47 (TI.za ti3) = [iv (List.getD [1] i47 0)]))
 (o7:q19_2 r q ((whereS q 1).length<=1125899906842624))
 (o8:q19_1 r q ((bif bif bif bif bif bif bif bif bif bif bif decide (openE q (whenIs q 1 0)=0) then decide (openE q (isFound q 1)=0) else false then decide (openE q true=0) else false then decide (openE r (isPlate r 0)=0) else false then decide (openE r true=0) else false then decide (openE r (readIs r 2 1)=0) else false then decide ((whenS q 1 0).lo=7) && (decide ((whenS q 1 0).hi=9) && true) else false then sameInts (whereS q 1) [1] else false then decide (fewP q=2) else false then decide ((oldS r 0).lo=32) && (decide ((oldS r 0).hi=57) && true) else false then decide ((mixesS r).lo=3) && (decide ((mixesS r).hi=57) && true) else false then decide (readS r 2 1=3) else false)=true)) :
  Triple Try.prog 19 (sw19 r q):=by
 refine triple_of Try.func19 rfl Try.call19 T0_ok _ rfl rfl rfl rfl (Nat.le_of_ble_eq_true (by kernel_rfl)) (fun _ _ _ _ h=>h) ?_
 intro hp C hC _ hE
 obtain ⟨P,w0,E0,av,hA⟩:=C
 subst hC
 refine swp_seq ?_
 refine sR (kt:=[]) (kh:=[]) (q:=True/\True) (st':=ASt.mk [] [] 8) (by kernel_rfl) ⟨tv,tv⟩ ?_
 refine swp_seq ?_
 refine swp_region T0_ok mixed (cs:=[(0,CallSpec.eq (c19a r q) [])]) (kt:=[1,2]) (kh:=[40,48]) (q:=(True/\Triple Try.prog 77 (c19a r q)/\(r=exR/\q=exQ)/\True /\ ∀ (i0:Env),True)/\True/\True/\True/\True/\True/\True/\True/\True) (st':=ASt.mk [(1,.ptr 40 []),(2,.ptr 48 [])] [(40,.cells 25 (cRun r)),(48,.cells 25 (cRun q))] 72) (by kernel_rfl) ⟨⟨tv,(t77o (r) (q)),⟨hp.1,hp.2⟩,tv,(fun i0=>tv)⟩,tv,tv,tv,tv,tv,tv,tv,tv⟩ ?_
 refine swp_seq ?_
 refine swp_region T0_ok mixed (cs:=[(1,CallSpec.eq (s23 q 1 0) [true,true,true])]) (kt:=[1,2,3,4]) (kh:=[40,48,112]) (q:=True/\((AV.agg (cRun q)=AV.agg (cRun q)/\iv 1=iv 1/\iv 0=iv 0/\True)/\Triple Try.prog 23 (s23 q 1 0)/\fits q/\True /\ ∀ (i1:Env),True)/\True/\True/\True/\True/\True/\True/\True) (st':=ASt.mk [(1,.ptr 40 []),(2,.ptr 48 []),(3,.ptr 112 []),(4,iv (openE q (whenIs q 1 0)))] [(40,.cells 25 (cRun r)),(48,.cells 25 (cRun q)),(112,.cells 37 (cSpan (whenS q 1 0)))] 136) (by kernel_rfl) ⟨tv,⟨⟨rfl,rfl,rfl,tv⟩,(t23 (q) (1) (0)),(o0 hp),tv,(fun i1=>tv)⟩,tv,tv,tv,tv,tv,tv,tv⟩ ?_
 refine swp_seq ?_
 refine swp_region T0_ok mixed (cs:=[(1,CallSpec.eq (s35 q 1) [true,true])]) (kt:=[1,2,3,4,5,6]) (kh:=[40,48,112]) (q:=True/\((AV.agg (cRun q)=AV.agg (cRun q)/\iv 1=iv 1/\True)/\Triple Try.prog 35 (s35 q 1)/\fits q/\True /\ ∀ (i2:Env),True)/\True/\True/\True/\True/\True/\True) (st':=ASt.mk [(1,.ptr 40 []),(2,.ptr 48 []),(3,.ptr 112 []),(4,iv (openE q (whenIs q 1 0))),(5,aInts (whereS q 1)),(6,iv (openE q (isFound q 1)))] [(40,.cells 25 (cRun r)),(48,.cells 25 (cRun q)),(112,.cells 37 (cSpan (whenS q 1 0)))] 192) (by kernel_rfl) ⟨tv,⟨⟨rfl,rfl,tv⟩,(t35 (q) (1)),(o1 hp),tv,(fun i2=>tv)⟩,tv,tv,tv,tv,tv,tv⟩ ?_
 refine swp_seq ?_
 refine swp_region T0_ok mixed (cs:=[(1,CallSpec.eq (s22 q) [true])]) (kt:=[1,3,4,5,6,7,8]) (kh:=[40,112]) (q:=True/\((AV.agg (cRun q)=AV.agg (cRun q)/\True)/\Triple Try.prog 22 (s22 q)/\fits q/\True /\ ∀ (i3:Env),True)/\True/\True/\True/\True/\True/\True) (st':=ASt.mk [(1,.ptr 40 []),(3,.ptr 112 []),(4,iv (openE q (whenIs q 1 0))),(5,aInts (whereS q 1)),(6,iv (openE q (isFound q 1))),(7,iv (fewP q)),(8,iv (openE q true))] [(40,.cells 25 (cRun r)),(112,.cells 37 (cSpan (whenS q 1 0)))] 248) (by kernel_rfl) ⟨tv,⟨⟨rfl,tv⟩,(t22 (q)),(o2 hp),tv,(fun i3=>tv)⟩,tv,tv,tv,tv,tv,tv⟩ ?_
 refine swp_seq ?_
 refine swp_region T0_ok mixed (cs:=[(1,CallSpec.eq (s26 r 0) [true,true])]) (kt:=[1,3,4,5,6,7,8,9,10]) (kh:=[40,112,288]) (q:=True/\((AV.agg (cRun r)=AV.agg (cRun r)/\iv 0=iv 0/\True)/\Triple Try.prog 26 (s26 r 0)/\fits r/\True /\ ∀ (i4:Env),True)/\True/\True/\True/\True/\True/\True/\True) (st':=ASt.mk [(1,.ptr 40 []),(3,.ptr 112 []),(4,iv (openE q (whenIs q 1 0))),(5,aInts (whereS q 1)),(6,iv (openE q (isFound q 1))),(7,iv (fewP q)),(8,iv (openE q true)),(9,.ptr 288 []),(10,iv (openE r (isPlate r 0)))] [(40,.cells 25 (cRun r)),(112,.cells 37 (cSpan (whenS q 1 0))),(288,.cells 37 (cSpan (oldS r 0)))] 312) (by kernel_rfl) ⟨tv,⟨⟨rfl,rfl,tv⟩,(t26 (r) (0)),(o3 hp),tv,(fun i4=>tv)⟩,tv,tv,tv,tv,tv,tv,tv⟩ ?_
 refine swp_seq ?_
 refine swp_region T0_ok mixed (cs:=[(1,CallSpec.eq (s27 r) [true])]) (kt:=[1,3,4,5,6,7,8,9,10,11,12]) (kh:=[40,112,288,352]) (q:=True/\((AV.agg (cRun r)=AV.agg (cRun r)/\True)/\Triple Try.prog 27 (s27 r)/\fits r/\True /\ ∀ (i5:Env),True)/\True/\True/\True/\True/\True/\True/\True) (st':=ASt.mk [(1,.ptr 40 []),(3,.ptr 112 []),(4,iv (openE q (whenIs q 1 0))),(5,aInts (whereS q 1)),(6,iv (openE q (isFound q 1))),(7,iv (fewP q)),(8,iv (openE q true)),(9,.ptr 288 []),(10,iv (openE r (isPlate r 0))),(11,.ptr 352 []),(12,iv (openE r true))] [(40,.cells 25 (cRun r)),(112,.cells 37 (cSpan (whenS q 1 0))),(288,.cells 37 (cSpan (oldS r 0))),(352,.cells 37 (cSpan (mixesS r)))] 376) (by kernel_rfl) ⟨tv,⟨⟨rfl,tv⟩,(t27 (r)),(o4 hp),tv,(fun i5=>tv)⟩,tv,tv,tv,tv,tv,tv,tv⟩ ?_
 refine swp_seq ?_
 refine swp_region T0_ok mixed (cs:=[(1,CallSpec.eq (s31 r 2 1) [true,true,true])]) (kt:=[3,4,5,6,7,8,9,10,11,12,13,14]) (kh:=[112,288,352]) (q:=True/\((AV.agg (cRun r)=AV.agg (cRun r)/\iv 2=iv 2/\iv 1=iv 1/\True)/\Triple Try.prog 31 (s31 r 2 1)/\fits r/\True /\ ∀ (i6:Env),True)/\True/\True/\True/\True/\True/\True) (st':=ASt.mk [(3,.ptr 112 []),(4,iv (openE q (whenIs q 1 0))),(5,aInts (whereS q 1)),(6,iv (openE q (isFound q 1))),(7,iv (fewP q)),(8,iv (openE q true)),(9,.ptr 288 []),(10,iv (openE r (isPlate r 0))),(11,.ptr 352 []),(12,iv (openE r true)),(13,iv (readS r 2 1)),(14,iv (openE r (readIs r 2 1)))] [(112,.cells 37 (cSpan (whenS q 1 0))),(288,.cells 37 (cSpan (oldS r 0))),(352,.cells 37 (cSpan (mixesS r)))] 432) (by kernel_rfl) ⟨tv,⟨⟨rfl,rfl,rfl,tv⟩,(t31 (r) (2) (1)),(o5 hp),tv,(fun i6=>tv)⟩,tv,tv,tv,tv,tv,tv⟩ ?_
 refine swp_seq ?_
 refine swp_region T0_ok mixed (cs:=[(24,CallSpec.eq (s29 7 9) [true,true]),(30,CallSpec.eq (c19 r q) [false,false]),(38,CallSpec.eq (s29 32 57) [true,true]),(43,CallSpec.eq (s29 3 57) [true,true])]) (kt:=[0]) (kh:=[]) (q:=True/\True/\True/\(decide (openE q (whenIs q 1 0)=0)=true->(True/\True)/\True)/\(decide (openE q (whenIs q 1 0)=0)=true->((decide (openE q (whenIs q 1 0)=0)=true->decide (openE q (whenIs q 1 0)=0)=true)/\True/\True)/\True)/\((decide (openE q (whenIs q 1 0)=0)=true->decide (openE q (whenIs q 1 0)=0)=true)/\(decide (openE q (whenIs q 1 0)=0)=false->True))/\True/\((bif decide (openE q (whenIs q 1 0)=0) then decide (openE q (isFound q 1)=0) else false)=true->(True/\True)/\True)/\((bif decide (openE q (whenIs q 1 0)=0) then decide (openE q (isFound q 1)=0) else false)=true->(((bif decide (openE q (whenIs q 1 0)=0) then decide (openE q (isFound q 1)=0) else false)=true->(bif decide (openE q (whenIs q 1 0)=0) then decide (openE q (isFound q 1)=0) else false)=true)/\True/\True)/\True)/\(((bif decide (openE q (whenIs q 1 0)=0) then decide (openE q (isFound q 1)=0) else false)=true->(bif decide (openE q (whenIs q 1 0)=0) then decide (openE q (isFound q 1)=0) else false)=true)/\((bif decide (openE q (whenIs q 1 0)=0) then decide (openE q (isFound q 1)=0) else false)=false->True))/\True/\((bif bif decide (openE q (whenIs q 1 0)=0) then decide (openE q (isFound q 1)=0) else false then decide (openE q true=0) else false)=true->(True/\True)/\True)/\((bif bif decide (openE q (whenIs q 1 0)=0) then decide (openE q (isFound q 1)=0) else false then decide (openE q true=0) else false)=true->(((bif bif decide (openE q (whenIs q 1 0)=0) then decide (openE q (isFound q 1)=0) else false then decide (openE q true=0) else false)=true->(bif bif decide (openE q (whenIs q 1 0)=0) then decide (openE q (isFound q 1)=0) else false then decide (openE q true=0) else false)=true)/\True/\True)/\True)/\(((bif bif decide (openE q (whenIs q 1 0)=0) then decide (openE q (isFound q 1)=0) else false then decide (openE q true=0) else false)=true->(bif bif decide (openE q (whenIs q 1 0)=0) then decide (openE q (isFound q 1)=0) else false then decide (openE q true=0) else false)=true)/\((bif bif decide (openE q (whenIs q 1 0)=0) then decide (openE q (isFound q 1)=0) else false then decide (openE q true=0) else false)=false->True))/\True/\((bif bif bif decide (openE q (whenIs q 1 0)=0) then decide (openE q (isFound q 1)=0) else false then decide (openE q true=0) else false then decide (openE r (isPlate r 0)=0) else false)=true->(True/\True)/\True)/\((bif bif bif decide (openE q (whenIs q 1 0)=0) then decide (openE q (isFound q 1)=0) else false then decide (openE q true=0) else false then decide (openE r (isPlate r 0)=0) else false)=true->(((bif bif bif decide (openE q (whenIs q 1 0)=0) then decide (openE q (isFound q 1)=0) else false then decide (openE q true=0) else false then decide (openE r (isPlate r 0)=0) else false)=true->(bif bif bif decide (openE q (whenIs q 1 0)=0) then decide (openE q (isFound q 1)=0) else false then decide (openE q true=0) else false then decide (openE r (isPlate r 0)=0) else false)=true)/\True/\True)/\True)/\(((bif bif bif decide (openE q (whenIs q 1 0)=0) then decide (openE q (isFound q 1)=0) else false then decide (openE q true=0) else false then decide (openE r (isPlate r 0)=0) else false)=true->(bif bif bif decide (openE q (whenIs q 1 0)=0) then decide (openE q (isFound q 1)=0) else false then decide (openE q true=0) else false then decide (openE r (isPlate r 0)=0) else false)=true)/\((bif bif bif decide (openE q (whenIs q 1 0)=0) then decide (openE q (isFound q 1)=0) else false then decide (openE q true=0) else false then decide (openE r (isPlate r 0)=0) else false)=false->True))/\True/\((bif bif bif bif decide (openE q (whenIs q 1 0)=0) then decide (openE q (isFound q 1)=0) else false then decide (openE q true=0) else false then decide (openE r (isPlate r 0)=0) else false then decide (openE r true=0) else false)=true->(True/\True)/\True)/\((bif bif bif bif decide (openE q (whenIs q 1 0)=0) then decide (openE q (isFound q 1)=0) else false then decide (openE q true=0) else false then decide (openE r (isPlate r 0)=0) else false then decide (openE r true=0) else false)=true->(((bif bif bif bif decide (openE q (whenIs q 1 0)=0) then decide (openE q (isFound q 1)=0) else false then decide (openE q true=0) else false then decide (openE r (isPlate r 0)=0) else false then decide (openE r true=0) else false)=true->(bif bif bif bif decide (openE q (whenIs q 1 0)=0) then decide (openE q (isFound q 1)=0) else false then decide (openE q true=0) else false then decide (openE r (isPlate r 0)=0) else false then decide (openE r true=0) else false)=true)/\True/\True)/\True)/\(((bif bif bif bif decide (openE q (whenIs q 1 0)=0) then decide (openE q (isFound q 1)=0) else false then decide (openE q true=0) else false then decide (openE r (isPlate r 0)=0) else false then decide (openE r true=0) else false)=true->(bif bif bif bif decide (openE q (whenIs q 1 0)=0) then decide (openE q (isFound q 1)=0) else false then decide (openE q true=0) else false then decide (openE r (isPlate r 0)=0) else false then decide (openE r true=0) else false)=true)/\((bif bif bif bif decide (openE q (whenIs q 1 0)=0) then decide (openE q (isFound q 1)=0) else false then decide (openE q true=0) else false then decide (openE r (isPlate r 0)=0) else false then decide (openE r true=0) else false)=false->True))/\True/\((bif bif bif bif bif decide (openE q (whenIs q 1 0)=0) then decide (openE q (isFound q 1)=0) else false then decide (openE q true=0) else false then decide (openE r (isPlate r 0)=0) else false then decide (openE r true=0) else false then decide (openE r (readIs r 2 1)=0) else false)=true->(True/\True)/\True)/\((bif bif bif bif bif decide (openE q (whenIs q 1 0)=0) then decide (openE q (isFound q 1)=0) else false then decide (openE q true=0) else false then decide (openE r (isPlate r 0)=0) else false then decide (openE r true=0) else false then decide (openE r (readIs r 2 1)=0) else false)=true->(True/\True/\True/\True)/\(iv 7=iv 7/\iv 9=iv 9/\True)/\Triple Try.prog 29 (s29 7 9)/\True/\True /\ ∀ (i34:Env),True)/\((bif bif bif bif bif decide (openE q (whenIs q 1 0)=0) then decide (openE q (isFound q 1)=0) else false then decide (openE q true=0) else false then decide (openE r (isPlate r 0)=0) else false then decide (openE r true=0) else false then decide (openE r (readIs r 2 1)=0) else false)=true->(((bif bif bif bif bif decide (openE q (whenIs q 1 0)=0) then decide (openE q (isFound q 1)=0) else false then decide (openE q true=0) else false then decide (openE r (isPlate r 0)=0) else false then decide (openE r true=0) else false then decide (openE r (readIs r 2 1)=0) else false)=true->(bif bif bif bif bif decide (openE q (whenIs q 1 0)=0) then decide (openE q (isFound q 1)=0) else false then decide (openE q true=0) else false then decide (openE r (isPlate r 0)=0) else false then decide (openE r true=0) else false then decide (openE r (readIs r 2 1)=0) else false)=true)/\((bif bif bif bif bif decide (openE q (whenIs q 1 0)=0) then decide (openE q (isFound q 1)=0) else false then decide (openE q true=0) else false then decide (openE r (isPlate r 0)=0) else false then decide (openE r true=0) else false then decide (openE r (readIs r 2 1)=0) else false)=true->(bif bif bif bif bif decide (openE q (whenIs q 1 0)=0) then decide (openE q (isFound q 1)=0) else false then decide (openE q true=0) else false then decide (openE r (isPlate r 0)=0) else false then decide (openE r true=0) else false then decide (openE r (readIs r 2 1)=0) else false)=true)/\True)/\True)/\(((bif bif bif bif bif decide (openE q (whenIs q 1 0)=0) then decide (openE q (isFound q 1)=0) else false then decide (openE q true=0) else false then decide (openE r (isPlate r 0)=0) else false then decide (openE r true=0) else false then decide (openE r (readIs r 2 1)=0) else false)=true->(bif bif bif bif bif decide (openE q (whenIs q 1 0)=0) then decide (openE q (isFound q 1)=0) else false then decide (openE q true=0) else false then decide (openE r (isPlate r 0)=0) else false then decide (openE r true=0) else false then decide (openE r (readIs r 2 1)=0) else false)=true)/\((bif bif bif bif bif decide (openE q (whenIs q 1 0)=0) then decide (openE q (isFound q 1)=0) else false then decide (openE q true=0) else false then decide (openE r (isPlate r 0)=0) else false then decide (openE r true=0) else false then decide (openE r (readIs r 2 1)=0) else false)=false->True))/\True/\((bif bif bif bif bif bif decide (openE q (whenIs q 1 0)=0) then decide (openE q (isFound q 1)=0) else false then decide (openE q true=0) else false then decide (openE r (isPlate r 0)=0) else false then decide (openE r true=0) else false then decide (openE r (readIs r 2 1)=0) else false then decide ((whenS q 1 0).lo=7) && (decide ((whenS q 1 0).hi=9) && true) else false)=true->(True/\True)/\True)/\((bif bif bif bif bif bif decide (openE q (whenIs q 1 0)=0) then decide (openE q (isFound q 1)=0) else false then decide (openE q true=0) else false then decide (openE r (isPlate r 0)=0) else false then decide (openE r true=0) else false then decide (openE r (readIs r 2 1)=0) else false then decide ((whenS q 1 0).lo=7) && (decide ((whenS q 1 0).hi=9) && true) else false)=true->(True/\True)/\True)/\((bif bif bif bif bif bif decide (openE q (whenIs q 1 0)=0) then decide (openE q (isFound q 1)=0) else false then decide (openE q true=0) else false then decide (openE r (isPlate r 0)=0) else false then decide (openE r true=0) else false then decide (openE r (readIs r 2 1)=0) else false then decide ((whenS q 1 0).lo=7) && (decide ((whenS q 1 0).hi=9) && true) else false)=true->(True/\((bif bif bif bif bif bif decide (openE q (whenIs q 1 0)=0) then decide (openE q (isFound q 1)=0) else false then decide (openE q true=0) else false then decide (openE r (isPlate r 0)=0) else false then decide (openE r true=0) else false then decide (openE r (readIs r 2 1)=0) else false then decide ((whenS q 1 0).lo=7) && (decide ((whenS q 1 0).hi=9) && true) else false)=true->(bif bif bif bif bif bif decide (openE q (whenIs q 1 0)=0) then decide (openE q (isFound q 1)=0) else false then decide (openE q true=0) else false then decide (openE r (isPlate r 0)=0) else false then decide (openE r true=0) else false then decide (openE r (readIs r 2 1)=0) else false then decide ((whenS q 1 0).lo=7) && (decide ((whenS q 1 0).hi=9) && true) else false)=true)/\((bif bif bif bif bif bif decide (openE q (whenIs q 1 0)=0) then decide (openE q (isFound q 1)=0) else false then decide (openE q true=0) else false then decide (openE r (isPlate r 0)=0) else false then decide (openE r true=0) else false then decide (openE r (readIs r 2 1)=0) else false then decide ((whenS q 1 0).lo=7) && (decide ((whenS q 1 0).hi=9) && true) else false)=true->(bif bif bif bif bif bif decide (openE q (whenIs q 1 0)=0) then decide (openE q (isFound q 1)=0) else false then decide (openE q true=0) else false then decide (openE r (isPlate r 0)=0) else false then decide (openE r true=0) else false then decide (openE r (readIs r 2 1)=0) else false then decide ((whenS q 1 0).lo=7) && (decide ((whenS q 1 0).hi=9) && true) else false)=true)/\True)/\((1=1/\(whereS q 1).length=(whereS q 1).length /\ ∀ (i45:Nat),i45 < (whereS q 1).length -> [iv ((whereS q 1).getD i45 0)] = [iv ((whereS q 1).getD i45 0)])/\(1=1/\1=1 /\ ∀ (i47:Nat),i47 < List.length [1]->List.getD [[iv 1]] i47 (TI.za ti3) = [iv (List.getD [1] i47 0)])/\True)/\Triple Try.prog 37 (c19 r q)/\(whereS q 1).length<=1125899906842624/\True /\ ∀ (i49:Env),True)/\(((bif bif bif bif bif bif decide (openE q (whenIs q 1 0)=0) then decide (openE q (isFound q 1)=0) else false then decide (openE q true=0) else false then decide (openE r (isPlate r 0)=0) else false then decide (openE r true=0) else false then decide (openE r (readIs r 2 1)=0) else false then decide ((whenS q 1 0).lo=7) && (decide ((whenS q 1 0).hi=9) && true) else false)=true->(bif bif bif bif bif bif decide (openE q (whenIs q 1 0)=0) then decide (openE q (isFound q 1)=0) else false then decide (openE q true=0) else false then decide (openE r (isPlate r 0)=0) else false then decide (openE r true=0) else false then decide (openE r (readIs r 2 1)=0) else false then decide ((whenS q 1 0).lo=7) && (decide ((whenS q 1 0).hi=9) && true) else false)=true)/\((bif bif bif bif bif bif decide (openE q (whenIs q 1 0)=0) then decide (openE q (isFound q 1)=0) else false then decide (openE q true=0) else false then decide (openE r (isPlate r 0)=0) else false then decide (openE r true=0) else false then decide (openE r (readIs r 2 1)=0) else false then decide ((whenS q 1 0).lo=7) && (decide ((whenS q 1 0).hi=9) && true) else false)=false->True))/\True/\((bif bif bif bif bif bif bif decide (openE q (whenIs q 1 0)=0) then decide (openE q (isFound q 1)=0) else false then decide (openE q true=0) else false then decide (openE r (isPlate r 0)=0) else false then decide (openE r true=0) else false then decide (openE r (readIs r 2 1)=0) else false then decide ((whenS q 1 0).lo=7) && (decide ((whenS q 1 0).hi=9) && true) else false then sameInts (whereS q 1) [1] else false)=true->(True/\True)/\True)/\((bif bif bif bif bif bif bif decide (openE q (whenIs q 1 0)=0) then decide (openE q (isFound q 1)=0) else false then decide (openE q true=0) else false then decide (openE r (isPlate r 0)=0) else false then decide (openE r true=0) else false then decide (openE r (readIs r 2 1)=0) else false then decide ((whenS q 1 0).lo=7) && (decide ((whenS q 1 0).hi=9) && true) else false then sameInts (whereS q 1) [1] else false)=true->(((bif bif bif bif bif bif bif decide (openE q (whenIs q 1 0)=0) then decide (openE q (isFound q 1)=0) else false then decide (openE q true=0) else false then decide (openE r (isPlate r 0)=0) else false then decide (openE r true=0) else false then decide (openE r (readIs r 2 1)=0) else false then decide ((whenS q 1 0).lo=7) && (decide ((whenS q 1 0).hi=9) && true) else false then sameInts (whereS q 1) [1] else false)=true->(bif bif bif bif bif bif bif decide (openE q (whenIs q 1 0)=0) then decide (openE q (isFound q 1)=0) else false then decide (openE q true=0) else false then decide (openE r (isPlate r 0)=0) else false then decide (openE r true=0) else false then decide (openE r (readIs r 2 1)=0) else false then decide ((whenS q 1 0).lo=7) && (decide ((whenS q 1 0).hi=9) && true) else false then sameInts (whereS q 1) [1] else false)=true)/\True/\True)/\True)/\(((bif bif bif bif bif bif bif decide (openE q (whenIs q 1 0)=0) then decide (openE q (isFound q 1)=0) else false then decide (openE q true=0) else false then decide (openE r (isPlate r 0)=0) else false then decide (openE r true=0) else false then decide (openE r (readIs r 2 1)=0) else false then decide ((whenS q 1 0).lo=7) && (decide ((whenS q 1 0).hi=9) && true) else false then sameInts (whereS q 1) [1] else false)=true->(bif bif bif bif bif bif bif decide (openE q (whenIs q 1 0)=0) then decide (openE q (isFound q 1)=0) else false then decide (openE q true=0) else false then decide (openE r (isPlate r 0)=0) else false then decide (openE r true=0) else false then decide (openE r (readIs r 2 1)=0) else false then decide ((whenS q 1 0).lo=7) && (decide ((whenS q 1 0).hi=9) && true) else false then sameInts (whereS q 1) [1] else false)=true)/\((bif bif bif bif bif bif bif decide (openE q (whenIs q 1 0)=0) then decide (openE q (isFound q 1)=0) else false then decide (openE q true=0) else false then decide (openE r (isPlate r 0)=0) else false then decide (openE r true=0) else false then decide (openE r (readIs r 2 1)=0) else false then decide ((whenS q 1 0).lo=7) && (decide ((whenS q 1 0).hi=9) && true) else false then sameInts (whereS q 1) [1] else false)=false->True))/\True/\((bif bif bif bif bif bif bif bif decide (openE q (whenIs q 1 0)=0) then decide (openE q (isFound q 1)=0) else false then decide (openE q true=0) else false then decide (openE r (isPlate r 0)=0) else false then decide (openE r true=0) else false then decide (openE r (readIs r 2 1)=0) else false then decide ((whenS q 1 0).lo=7) && (decide ((whenS q 1 0).hi=9) && true) else false then sameInts (whereS q 1) [1] else false then decide (fewP q=2) else false)=true->(True/\True)/\True)/\((bif bif bif bif bif bif bif bif decide (openE q (whenIs q 1 0)=0) then decide (openE q (isFound q 1)=0) else false then decide (openE q true=0) else false then decide (openE r (isPlate r 0)=0) else false then decide (openE r true=0) else false then decide (openE r (readIs r 2 1)=0) else false then decide ((whenS q 1 0).lo=7) && (decide ((whenS q 1 0).hi=9) && true) else false then sameInts (whereS q 1) [1] else false then decide (fewP q=2) else false)=true->(True/\True/\True/\True)/\(iv 32=iv 32/\iv 57=iv 57/\True)/\Triple Try.prog 29 (s29 32 57)/\True/\True /\ ∀ (i59:Env),True)/\((bif bif bif bif bif bif bif bif decide (openE q (whenIs q 1 0)=0) then decide (openE q (isFound q 1)=0) else false then decide (openE q true=0) else false then decide (openE r (isPlate r 0)=0) else false then decide (openE r true=0) else false then decide (openE r (readIs r 2 1)=0) else false then decide ((whenS q 1 0).lo=7) && (decide ((whenS q 1 0).hi=9) && true) else false then sameInts (whereS q 1) [1] else false then decide (fewP q=2) else false)=true->(((bif bif bif bif bif bif bif bif decide (openE q (whenIs q 1 0)=0) then decide (openE q (isFound q 1)=0) else false then decide (openE q true=0) else false then decide (openE r (isPlate r 0)=0) else false then decide (openE r true=0) else false then decide (openE r (readIs r 2 1)=0) else false then decide ((whenS q 1 0).lo=7) && (decide ((whenS q 1 0).hi=9) && true) else false then sameInts (whereS q 1) [1] else false then decide (fewP q=2) else false)=true->(bif bif bif bif bif bif bif bif decide (openE q (whenIs q 1 0)=0) then decide (openE q (isFound q 1)=0) else false then decide (openE q true=0) else false then decide (openE r (isPlate r 0)=0) else false then decide (openE r true=0) else false then decide (openE r (readIs r 2 1)=0) else false then decide ((whenS q 1 0).lo=7) && (decide ((whenS q 1 0).hi=9) && true) else false then sameInts (whereS q 1) [1] else false then decide (fewP q=2) else false)=true)/\((bif bif bif bif bif bif bif bif decide (openE q (whenIs q 1 0)=0) then decide (openE q (isFound q 1)=0) else false then decide (openE q true=0) else false then decide (openE r (isPlate r 0)=0) else false then decide (openE r true=0) else false then decide (openE r (readIs r 2 1)=0) else false then decide ((whenS q 1 0).lo=7) && (decide ((whenS q 1 0).hi=9) && true) else false then sameInts (whereS q 1) [1] else false then decide (fewP q=2) else false)=true->(bif bif bif bif bif bif bif bif decide (openE q (whenIs q 1 0)=0) then decide (openE q (isFound q 1)=0) else false then decide (openE q true=0) else false then decide (openE r (isPlate r 0)=0) else false then decide (openE r true=0) else false then decide (openE r (readIs r 2 1)=0) else false then decide ((whenS q 1 0).lo=7) && (decide ((whenS q 1 0).hi=9) && true) else false then sameInts (whereS q 1) [1] else false then decide (fewP q=2) else false)=true)/\True)/\True)/\(((bif bif bif bif bif bif bif bif decide (openE q (whenIs q 1 0)=0) then decide (openE q (isFound q 1)=0) else false then decide (openE q true=0) else false then decide (openE r (isPlate r 0)=0) else false then decide (openE r true=0) else false then decide (openE r (readIs r 2 1)=0) else false then decide ((whenS q 1 0).lo=7) && (decide ((whenS q 1 0).hi=9) && true) else false then sameInts (whereS q 1) [1] else false then decide (fewP q=2) else false)=true->(bif bif bif bif bif bif bif bif decide (openE q (whenIs q 1 0)=0) then decide (openE q (isFound q 1)=0) else false then decide (openE q true=0) else false then decide (openE r (isPlate r 0)=0) else false then decide (openE r true=0) else false then decide (openE r (readIs r 2 1)=0) else false then decide ((whenS q 1 0).lo=7) && (decide ((whenS q 1 0).hi=9) && true) else false then sameInts (whereS q 1) [1] else false then decide (fewP q=2) else false)=true)/\((bif bif bif bif bif bif bif bif decide (openE q (whenIs q 1 0)=0) then decide (openE q (isFound q 1)=0) else false then decide (openE q true=0) else false then decide (openE r (isPlate r 0)=0) else false then decide (openE r true=0) else false then decide (openE r (readIs r 2 1)=0) else false then decide ((whenS q 1 0).lo=7) && (decide ((whenS q 1 0).hi=9) && true) else false then sameInts (whereS q 1) [1] else false then decide (fewP q=2) else false)=false->True))/\True/\((bif bif bif bif bif bif bif bif bif decide (openE q (whenIs q 1 0)=0) then decide (openE q (isFound q 1)=0) else false then decide (openE q true=0) else false then decide (openE r (isPlate r 0)=0) else false then decide (openE r true=0) else false then decide (openE r (readIs r 2 1)=0) else false then decide ((whenS q 1 0).lo=7) && (decide ((whenS q 1 0).hi=9) && true) else false then sameInts (whereS q 1) [1] else false then decide (fewP q=2) else false then decide ((oldS r 0).lo=32) && (decide ((oldS r 0).hi=57) && true) else false)=true->(True/\True)/\True)/\((bif bif bif bif bif bif bif bif bif decide (openE q (whenIs q 1 0)=0) then decide (openE q (isFound q 1)=0) else false then decide (openE q true=0) else false then decide (openE r (isPlate r 0)=0) else false then decide (openE r true=0) else false then decide (openE r (readIs r 2 1)=0) else false then decide ((whenS q 1 0).lo=7) && (decide ((whenS q 1 0).hi=9) && true) else false then sameInts (whereS q 1) [1] else false then decide (fewP q=2) else false then decide ((oldS r 0).lo=32) && (decide ((oldS r 0).hi=57) && true) else false)=true->(True/\True/\True/\True)/\(iv 3=iv 3/\iv 57=iv 57/\True)/\Triple Try.prog 29 (s29 3 57)/\True/\True /\ ∀ (i67:Env),True)/\((bif bif bif bif bif bif bif bif bif decide (openE q (whenIs q 1 0)=0) then decide (openE q (isFound q 1)=0) else false then decide (openE q true=0) else false then decide (openE r (isPlate r 0)=0) else false then decide (openE r true=0) else false then decide (openE r (readIs r 2 1)=0) else false then decide ((whenS q 1 0).lo=7) && (decide ((whenS q 1 0).hi=9) && true) else false then sameInts (whereS q 1) [1] else false then decide (fewP q=2) else false then decide ((oldS r 0).lo=32) && (decide ((oldS r 0).hi=57) && true) else false)=true->(((bif bif bif bif bif bif bif bif bif decide (openE q (whenIs q 1 0)=0) then decide (openE q (isFound q 1)=0) else false then decide (openE q true=0) else false then decide (openE r (isPlate r 0)=0) else false then decide (openE r true=0) else false then decide (openE r (readIs r 2 1)=0) else false then decide ((whenS q 1 0).lo=7) && (decide ((whenS q 1 0).hi=9) && true) else false then sameInts (whereS q 1) [1] else false then decide (fewP q=2) else false then decide ((oldS r 0).lo=32) && (decide ((oldS r 0).hi=57) && true) else false)=true->(bif bif bif bif bif bif bif bif bif decide (openE q (whenIs q 1 0)=0) then decide (openE q (isFound q 1)=0) else false then decide (openE q true=0) else false then decide (openE r (isPlate r 0)=0) else false then decide (openE r true=0) else false then decide (openE r (readIs r 2 1)=0) else false then decide ((whenS q 1 0).lo=7) && (decide ((whenS q 1 0).hi=9) && true) else false then sameInts (whereS q 1) [1] else false then decide (fewP q=2) else false then decide ((oldS r 0).lo=32) && (decide ((oldS r 0).hi=57) && true) else false)=true)/\((bif bif bif bif bif bif bif bif bif decide (openE q (whenIs q 1 0)=0) then decide (openE q (isFound q 1)=0) else false then decide (openE q true=0) else false then decide (openE r (isPlate r 0)=0) else false then decide (openE r true=0) else false then decide (openE r (readIs r 2 1)=0) else false then decide ((whenS q 1 0).lo=7) && (decide ((whenS q 1 0).hi=9) && true) else false then sameInts (whereS q 1) [1] else false then decide (fewP q=2) else false then decide ((oldS r 0).lo=32) && (decide ((oldS r 0).hi=57) && true) else false)=true->(bif bif bif bif bif bif bif bif bif decide (openE q (whenIs q 1 0)=0) then decide (openE q (isFound q 1)=0) else false then decide (openE q true=0) else false then decide (openE r (isPlate r 0)=0) else false then decide (openE r true=0) else false then decide (openE r (readIs r 2 1)=0) else false then decide ((whenS q 1 0).lo=7) && (decide ((whenS q 1 0).hi=9) && true) else false then sameInts (whereS q 1) [1] else false then decide (fewP q=2) else false then decide ((oldS r 0).lo=32) && (decide ((oldS r 0).hi=57) && true) else false)=true)/\True)/\True)/\(((bif bif bif bif bif bif bif bif bif decide (openE q (whenIs q 1 0)=0) then decide (openE q (isFound q 1)=0) else false then decide (openE q true=0) else false then decide (openE r (isPlate r 0)=0) else false then decide (openE r true=0) else false then decide (openE r (readIs r 2 1)=0) else false then decide ((whenS q 1 0).lo=7) && (decide ((whenS q 1 0).hi=9) && true) else false then sameInts (whereS q 1) [1] else false then decide (fewP q=2) else false then decide ((oldS r 0).lo=32) && (decide ((oldS r 0).hi=57) && true) else false)=true->(bif bif bif bif bif bif bif bif bif decide (openE q (whenIs q 1 0)=0) then decide (openE q (isFound q 1)=0) else false then decide (openE q true=0) else false then decide (openE r (isPlate r 0)=0) else false then decide (openE r true=0) else false then decide (openE r (readIs r 2 1)=0) else false then decide ((whenS q 1 0).lo=7) && (decide ((whenS q 1 0).hi=9) && true) else false then sameInts (whereS q 1) [1] else false then decide (fewP q=2) else false then decide ((oldS r 0).lo=32) && (decide ((oldS r 0).hi=57) && true) else false)=true)/\((bif bif bif bif bif bif bif bif bif decide (openE q (whenIs q 1 0)=0) then decide (openE q (isFound q 1)=0) else false then decide (openE q true=0) else false then decide (openE r (isPlate r 0)=0) else false then decide (openE r true=0) else false then decide (openE r (readIs r 2 1)=0) else false then decide ((whenS q 1 0).lo=7) && (decide ((whenS q 1 0).hi=9) && true) else false then sameInts (whereS q 1) [1] else false then decide (fewP q=2) else false then decide ((oldS r 0).lo=32) && (decide ((oldS r 0).hi=57) && true) else false)=false->True))/\True/\((bif bif bif bif bif bif bif bif bif bif decide (openE q (whenIs q 1 0)=0) then decide (openE q (isFound q 1)=0) else false then decide (openE q true=0) else false then decide (openE r (isPlate r 0)=0) else false then decide (openE r true=0) else false then decide (openE r (readIs r 2 1)=0) else false then decide ((whenS q 1 0).lo=7) && (decide ((whenS q 1 0).hi=9) && true) else false then sameInts (whereS q 1) [1] else false then decide (fewP q=2) else false then decide ((oldS r 0).lo=32) && (decide ((oldS r 0).hi=57) && true) else false then decide ((mixesS r).lo=3) && (decide ((mixesS r).hi=57) && true) else false)=true->(True/\True)/\True)/\((bif bif bif bif bif bif bif bif bif bif decide (openE q (whenIs q 1 0)=0) then decide (openE q (isFound q 1)=0) else false then decide (openE q true=0) else false then decide (openE r (isPlate r 0)=0) else false then decide (openE r true=0) else false then decide (openE r (readIs r 2 1)=0) else false then decide ((whenS q 1 0).lo=7) && (decide ((whenS q 1 0).hi=9) && true) else false then sameInts (whereS q 1) [1] else false then decide (fewP q=2) else false then decide ((oldS r 0).lo=32) && (decide ((oldS r 0).hi=57) && true) else false then decide ((mixesS r).lo=3) && (decide ((mixesS r).hi=57) && true) else false)=true->(((bif bif bif bif bif bif bif bif bif bif decide (openE q (whenIs q 1 0)=0) then decide (openE q (isFound q 1)=0) else false then decide (openE q true=0) else false then decide (openE r (isPlate r 0)=0) else false then decide (openE r true=0) else false then decide (openE r (readIs r 2 1)=0) else false then decide ((whenS q 1 0).lo=7) && (decide ((whenS q 1 0).hi=9) && true) else false then sameInts (whereS q 1) [1] else false then decide (fewP q=2) else false then decide ((oldS r 0).lo=32) && (decide ((oldS r 0).hi=57) && true) else false then decide ((mixesS r).lo=3) && (decide ((mixesS r).hi=57) && true) else false)=true->(bif bif bif bif bif bif bif bif bif bif decide (openE q (whenIs q 1 0)=0) then decide (openE q (isFound q 1)=0) else false then decide (openE q true=0) else false then decide (openE r (isPlate r 0)=0) else false then decide (openE r true=0) else false then decide (openE r (readIs r 2 1)=0) else false then decide ((whenS q 1 0).lo=7) && (decide ((whenS q 1 0).hi=9) && true) else false then sameInts (whereS q 1) [1] else false then decide (fewP q=2) else false then decide ((oldS r 0).lo=32) && (decide ((oldS r 0).hi=57) && true) else false then decide ((mixesS r).lo=3) && (decide ((mixesS r).hi=57) && true) else false)=true)/\True/\True)/\True)/\(((bif bif bif bif bif bif bif bif bif bif decide (openE q (whenIs q 1 0)=0) then decide (openE q (isFound q 1)=0) else false then decide (openE q true=0) else false then decide (openE r (isPlate r 0)=0) else false then decide (openE r true=0) else false then decide (openE r (readIs r 2 1)=0) else false then decide ((whenS q 1 0).lo=7) && (decide ((whenS q 1 0).hi=9) && true) else false then sameInts (whereS q 1) [1] else false then decide (fewP q=2) else false then decide ((oldS r 0).lo=32) && (decide ((oldS r 0).hi=57) && true) else false then decide ((mixesS r).lo=3) && (decide ((mixesS r).hi=57) && true) else false)=true->(bif bif bif bif bif bif bif bif bif bif decide (openE q (whenIs q 1 0)=0) then decide (openE q (isFound q 1)=0) else false then decide (openE q true=0) else false then decide (openE r (isPlate r 0)=0) else false then decide (openE r true=0) else false then decide (openE r (readIs r 2 1)=0) else false then decide ((whenS q 1 0).lo=7) && (decide ((whenS q 1 0).hi=9) && true) else false then sameInts (whereS q 1) [1] else false then decide (fewP q=2) else false then decide ((oldS r 0).lo=32) && (decide ((oldS r 0).hi=57) && true) else false then decide ((mixesS r).lo=3) && (decide ((mixesS r).hi=57) && true) else false)=true)/\((bif bif bif bif bif bif bif bif bif bif decide (openE q (whenIs q 1 0)=0) then decide (openE q (isFound q 1)=0) else false then decide (openE q true=0) else false then decide (openE r (isPlate r 0)=0) else false then decide (openE r true=0) else false then decide (openE r (readIs r 2 1)=0) else false then decide ((whenS q 1 0).lo=7) && (decide ((whenS q 1 0).hi=9) && true) else false then sameInts (whereS q 1) [1] else false then decide (fewP q=2) else false then decide ((oldS r 0).lo=32) && (decide ((oldS r 0).hi=57) && true) else false then decide ((mixesS r).lo=3) && (decide ((mixesS r).hi=57) && true) else false)=false->True))/\True/\True) (st':=ASt.mk [(0,bv (bif bif bif bif bif bif bif bif bif bif bif decide (openE q (whenIs q 1 0)=0) then decide (openE q (isFound q 1)=0) else false then decide (openE q true=0) else false then decide (openE r (isPlate r 0)=0) else false then decide (openE r true=0) else false then decide (openE r (readIs r 2 1)=0) else false then decide ((whenS q 1 0).lo=7) && (decide ((whenS q 1 0).hi=9) && true) else false then sameInts (whereS q 1) [1] else false then decide (fewP q=2) else false then decide ((oldS r 0).lo=32) && (decide ((oldS r 0).hi=57) && true) else false then decide ((mixesS r).lo=3) && (decide ((mixesS r).hi=57) && true) else false then decide (readS r 2 1=3) else false))] [] 840) (by kernel_rfl) ⟨tv,tv,tv,(fun h7=>⟨⟨tv,tv⟩,tv⟩),(fun h8=>⟨⟨(fun h9=>h8),tv,tv⟩,tv⟩),⟨(fun h10=>h10),(fun h11=>tv)⟩,tv,(fun h12=>⟨⟨tv,tv⟩,tv⟩),(fun h13=>⟨⟨(fun h14=>h13),tv,tv⟩,tv⟩),⟨(fun h15=>h15),(fun h16=>tv)⟩,tv,(fun h17=>⟨⟨tv,tv⟩,tv⟩),(fun h18=>⟨⟨(fun h19=>h18),tv,tv⟩,tv⟩),⟨(fun h20=>h20),(fun h21=>tv)⟩,tv,(fun h22=>⟨⟨tv,tv⟩,tv⟩),(fun h23=>⟨⟨(fun h24=>h23),tv,tv⟩,tv⟩),⟨(fun h25=>h25),(fun h26=>tv)⟩,tv,(fun h27=>⟨⟨tv,tv⟩,tv⟩),(fun h28=>⟨⟨(fun h29=>h28),tv,tv⟩,tv⟩),⟨(fun h30=>h30),(fun h31=>tv)⟩,tv,(fun h32=>⟨⟨tv,tv⟩,tv⟩),(fun h33=>⟨⟨tv,tv,tv,tv⟩,⟨rfl,rfl,tv⟩,(t29 (7) (9)),tv,tv,(fun i34=>tv)⟩),(fun h35=>⟨⟨(fun h36=>h35),(fun h37=>h35),tv⟩,tv⟩),⟨(fun h38=>h38),(fun h39=>tv)⟩,tv,(fun h40=>⟨⟨tv,tv⟩,tv⟩),(fun h41=>⟨⟨tv,tv⟩,tv⟩),(fun h42=>⟨⟨tv,(fun h43=>h42),(fun h44=>h42),tv⟩,⟨⟨rfl,rfl,(fun i45=>(fun h46=>rfl))⟩,⟨rfl,rfl,(fun i47=>(fun h48=>(o6 hp h42 i47 h48)))⟩,tv⟩,(t37 _ _),(o7 hp h42),tv,(fun i49=>tv)⟩),⟨(fun h50=>h50),(fun h51=>tv)⟩,tv,(fun h52=>⟨⟨tv,tv⟩,tv⟩),(fun h53=>⟨⟨(fun h54=>h53),tv,tv⟩,tv⟩),⟨(fun h55=>h55),(fun h56=>tv)⟩,tv,(fun h57=>⟨⟨tv,tv⟩,tv⟩),(fun h58=>⟨⟨tv,tv,tv,tv⟩,⟨rfl,rfl,tv⟩,(t29 (32) (57)),tv,tv,(fun i59=>tv)⟩),(fun h60=>⟨⟨(fun h61=>h60),(fun h62=>h60),tv⟩,tv⟩),⟨(fun h63=>h63),(fun h64=>tv)⟩,tv,(fun h65=>⟨⟨tv,tv⟩,tv⟩),(fun h66=>⟨⟨tv,tv,tv,tv⟩,⟨rfl,rfl,tv⟩,(t29 (3) (57)),tv,tv,(fun i67=>tv)⟩),(fun h68=>⟨⟨(fun h69=>h68),(fun h70=>h68),tv⟩,tv⟩),⟨(fun h71=>h71),(fun h72=>tv)⟩,tv,(fun h73=>⟨⟨tv,tv⟩,tv⟩),(fun h74=>⟨⟨(fun h75=>h74),tv,tv⟩,tv⟩),⟨(fun h76=>h76),(fun h77=>tv)⟩,tv,tv⟩ ?_
 refine swp_ret ?_
 exact ret_q [] ((True/\True)/\(bv (bif bif bif bif bif bif bif bif bif bif bif decide (openE q (whenIs q 1 0)=0) then decide (openE q (isFound q 1)=0) else false then decide (openE q true=0) else false then decide (openE r (isPlate r 0)=0) else false then decide (openE r true=0) else false then decide (openE r (readIs r 2 1)=0) else false then decide ((whenS q 1 0).lo=7) && (decide ((whenS q 1 0).hi=9) && true) else false then sameInts (whereS q 1) [1] else false then decide (fewP q=2) else false then decide ((oldS r 0).lo=32) && (decide ((oldS r 0).hi=57) && true) else false then decide ((mixesS r).lo=3) && (decide ((mixesS r).hi=57) && true) else false then decide (readS r 2 1=3) else false)=bv true/\nilN = [])/\T3) (by kernel_rfl) ⟨⟨tv,tv⟩,⟨(congrArg bv (o8 hp)),rfl⟩,rfl,rfl,rfl⟩
theorem tw19 (r q:Run):Triple Try.prog 19 (sw19 r q):=by
 apply w19
 case o7=>rintro ⟨rfl,rfl⟩ _; rw [x_where]; decide
 case o8 =>
  rintro ⟨rfl,rfl⟩
  obtain ⟨h1,h2,h3,h4,h5,h6⟩:=x_ok
  rw [h1,h2,h3,h4,h5,h6,x_where,x_when,x_old,x_mix,x_read,x_few]
  decide
 all_goals (rintro ⟨rfl,rfl⟩; first | exact small_fits small_exR | exact small_fits small_exQ | skip)
 all_goals (intro _ i hi; have:i=0:=by simpa using hi)
 all_goals (subst this; rfl)
theorem t19:Triple Try.prog 19 s19:=⟨(tw19 exR exQ).1,fun _=>(tw19 exR exQ).2 ⟨rfl,rfl⟩⟩
end Go.Ab
namespace Go.Sh
def chFrom (r:Run) (first:List Int):Nat->List (List Int)
 | 0=>[first]
 | k + 1=>(chFrom r first k).flatMap fun l=>(fnd r l.length).frm.map fun m=>l ++ [m]
theorem chFrom_head (r:Run):∀ k first,chFrom r first (k + 1)=(fnd r first.length).frm.flatMap fun m=>chFrom r (first ++ [m]) k:=by
 intro k
 induction k with
 | zero =>
  intro first
  simp only [chFrom,List.flatMap_cons,List.flatMap_nil,List.append_nil]
  generalize (fnd r first.length).frm=l
  induction l with
  | nil=>rfl
  | cons x l ih=>rw [List.map_cons,List.flatMap_cons,ih]; rfl
 | succ k ih =>
  intro first
  rw [chFrom,ih,List.flatMap_assoc]
  rfl
theorem choicesN_from (r:Run):∀ k first,choicesN r k first=chFrom r first k:=by
 intro k
 induction k with
 | zero=>intro first; rfl
 | succ k ih =>
  intro first
  rw [choicesN,chFrom_head]
  congr 1
  funext m
  exact ih _
theorem choices_from (r:Run):choices r []=chFrom r [] r.found.length:=by
 rw [choices,choicesN_from]; rfl
theorem spanTo_snoc (r:Run) (l:List Int) (x:Int) (j q:Nat):∀ n,n<=l.length->spanTo r (l ++ [x]) j q n=spanTo r l j q n:=by
 intro n
 induction n with
 | zero=>intro _; rfl
 | succ n ih =>
  intro h
  rw [spanTo_succ,spanTo_succ,ih (by omega)]
  have e:(l ++ [x]).getD n 0=l.getD n 0:=by rw [Go.Ab.getD_append,if_pos (by omega)]
  unfold spanStep
  rw [e]
theorem spanOf_snoc (r:Run) (l:List Int) (x:Int) (j q:Nat):spanOf r (l ++ [x]) j q=if x=(j:Int) then seeOne (fnd r l.length) q (spanOf r l j q) else spanOf r l j q:=by
 unfold spanOf
 rw [List.length_append,List.length_singleton,spanTo_succ,spanTo_snoc r l x j q _ (Nat.le_refl _)]
 unfold spanStep
 rw [Go.Ab.getD_append,if_neg (Nat.lt_irrefl _),Nat.sub_self]
 show (if x=(j:Int) then _ else _)=_
 split
 ·unfold seeOne
  by_cases h0:(fnd r l.length).new.getD q 0=0
  ·rw [if_pos h0,if_neg (by rw [h0]; decide),if_pos h0]
  ·rw [if_neg h0]
   split
   ·rfl
   ·rfl
 ·rfl
theorem seeOne_narrow (c:Fnd) (q:Nat) (s:Span):s.lo<=(seeOne c q s).lo/\(seeOne c q s).hi<=s.hi:=by
 unfold seeOne
 split
 ·exact ⟨Int.le_max_left _ _,Int.le_refl _⟩
 ·split
  ·exact ⟨Int.le_refl _,Int.min_le_left _ _⟩
  ·exact ⟨Int.le_refl _,Int.le_refl _⟩
theorem canBe_iff {r:Run} (ok:Ok r) {l:List Int}:canBe r l=true ↔ ∀ m,m < r.machines.length -> ∀ p:Nat,(p:Int) < r.plates->(spanOf r l m p).lo<=(spanOf r l m p).hi:=by
 unfold canBe canBeM canBeAt
 simp only [List.all_eq_true,List.mem_range,decide_eq_true_eq]
 have:=ok.plates
 constructor
 ·intro h m hm p hp; exact h m hm p (by omega)
 ·intro h m hm p hp; exact h m hm p (by omega)
theorem canBe_snoc {r:Run} (ok:Ok r) {l:List Int} {x:Int} (h:canBe r (l ++ [x])=true):canBe r l=true:=by
 rw [canBe_iff ok] at h ⊢
 intro m hm p hp
 have h1:=h m hm p hp
 rw [spanOf_snoc] at h1
 split at h1
 ·have:=seeOne_narrow (fnd r l.length) p (spanOf r l m p); omega
 ·exact h1
theorem seeN_spec (c:Fnd) (m:Nat):∀ k p (f:Nat->Nat->Span),((seeN c m k p f).1=true ↔ ∀ q,p<=q->q < p + k->(seeOne c q (f m q)).lo<=(seeOne c q (f m q)).hi) ∧
  ((seeN c m k p f).1=true -> ∀ j q,(seeN c m k p f).2 j q=if j=m/\p<=q/\q < p + k then seeOne c q (f j q) else f j q):=by
 intro k
 induction k with
 | zero =>
  intro p f
  refine ⟨⟨fun _ q h1 h2=>by omega,fun _=>rfl⟩,fun _ j q => ?_⟩
  rw [if_neg (by omega)]; rfl
 | succ k ih =>
  intro p f
  by_cases hs:(seeOne c p (f m p)).lo > (seeOne c p (f m p)).hi
  ·rw [seeN_stop hs]
   refine ⟨⟨fun h=>(by cases h),fun h => ?_⟩,fun h=>(by cases h)⟩
   have:=h p (Nat.le_refl _) (by omega)
   omega
  ·rw [seeN_go hs]
   obtain ⟨h1,h2⟩:=ih (p + 1) (upd2 f m p (seeOne c p (f m p)))
   have hq:∀ q,p + 1<=q->upd2 f m p (seeOne c p (f m p)) m q=f m q:=by
    intro q hq
    unfold upd2
    rw [if_pos rfl,if_neg (by omega)]
   refine ⟨⟨fun h q a b => ?_,fun h=>h1.2 fun q a b => ?_⟩,fun h j q => ?_⟩
   ·by_cases e:q=p
    ·subst e; omega
    ·have:=h1.1 h q (by omega) (by omega)
     rw [hq q (by omega)] at this
     exact this
   ·rw [hq q a]
    exact h q (by omega) (by omega)
   ·rw [h2 h j q]
    by_cases hj:j=m
    ·subst hj
     by_cases e:q=p
     ·subst e
      rw [if_neg (by omega),if_pos ⟨rfl,by omega,by omega⟩,upd2_at]
     ·by_cases hr:p + 1<=q/\q < p + 1 + k
      ·rw [if_pos ⟨rfl,hr⟩,if_pos ⟨rfl,by omega,by omega⟩,hq q hr.1]
      ·rw [if_neg (fun h=>hr h.2),if_neg (by omega)]
       unfold upd2
       rw [if_pos rfl,if_neg e]
    ·rw [if_neg (fun h=>hj h.1),if_neg (fun h=>hj h.1)]
     unfold upd2
     rw [if_neg hj]
theorem filter_flatMap {α β:Type} (L:List α) (g:α->List β) (P:α->Bool) (Q:β->Bool) (h:∀ l,l ∈ L->P l=false -> ∀ x,x ∈ g l->Q x=false):(L.flatMap g).filter Q=(L.filter P).flatMap fun l=>(g l).filter Q:=by
 induction L with
 | nil=>rfl
 | cons a L ih =>
  rw [List.flatMap_cons,List.filter_append,ih (fun l hl=>h l (List.mem_cons_of_mem _ hl))]
  cases hp:P a with
  | true=>rw [List.filter_cons_of_pos hp,List.flatMap_cons]
  | false =>
   rw [List.filter_cons_of_neg (by rw [hp]; exact Bool.false_ne_true)]
   have:(g a).filter Q = []:=by
    rw [List.filter_eq_nil_iff]
    intro x hx
    rw [h a (List.mem_cons_self ..) hp x hx]; exact Bool.false_ne_true
   rw [this]; rfl
def WayOK (r:Run) (w:WayS):Prop:=canBe r w.frm=true /\ ∀ m,m < r.machines.length -> ∀ p:Nat,(p:Int) < r.plates->w.whn m p=spanOf r w.frm m p
theorem one_ok {r:Run} (ok:Ok r) {n:Nat} (hn:n < r.found.length) {w:WayS} (hw:WayOK r w) (hl:w.frm.length=n) {x:Int} (hx:0<=x/\x < r.machines.length) :
  (see (fnd r n) x.toNat w.whn).1=canBe r (w.frm ++ [x])/\((see (fnd r n) x.toNat w.whn).1=true->WayOK r ⟨w.frm ++ [x],(see (fnd r n) x.toNat w.whn).2⟩):=by
 obtain ⟨h1,h2⟩:=seeN_spec (fnd r n) x.toNat (fnd r n).new.length 0 w.whn
 have hf:=ok.fnd n hn
 have hp:=ok.plates
 have key:∀ j,j < r.machines.length -> ∀ q:Nat,(q:Int) < r.plates->spanOf r (w.frm ++ [x]) j q=if j=x.toNat then seeOne (fnd r n) q (w.whn j q) else w.whn j q:=by
  intro j hj q hq
  rw [spanOf_snoc,hl,hw.2 j hj q hq]
  by_cases e:j=x.toNat
  ·rw [if_pos e,if_pos (by omega)]
  ·rw [if_neg e,if_neg (by omega)]
 have hc:=(canBe_iff ok).1 hw.1
 have hiff:(see (fnd r n) x.toNat w.whn).1=true ↔ canBe r (w.frm ++ [x])=true:=by
  unfold see
  rw [h1,canBe_iff ok]
  constructor
  ·intro h m hm p hpp
   rw [key m hm p hpp]
   split
   ·rename_i e
    subst e
    exact h p (Nat.zero_le _) (by omega)
   ·rw [hw.2 m hm p hpp]; exact hc m hm p hpp
  ·intro h q _ hq
   have:=h x.toNat (by omega) q (by omega)
   rw [key _ (by omega) q (by omega),if_pos rfl] at this
   exact this
 refine ⟨?_,fun h=>⟨hiff.1 h,fun m hm p hpp => ?_⟩⟩
 ·cases e:canBe r (w.frm ++ [x]) with
  | true=>exact hiff.2 e
  | false =>
   cases e2:(see (fnd r n) x.toNat w.whn).1 with
   | true=>rw [hiff.1 e2] at e; cases e
   | false=>rfl
 ·show (see (fnd r n) x.toNat w.whn).2 m p=spanOf r (w.frm ++ [x]) m p
  rw [key m hm p hpp]
  unfold see at h ⊢
  rw [h2 h m p]
  by_cases e:m=x.toNat
  ·rw [if_pos ⟨e,Nat.zero_le _,by omega⟩,if_pos e]
  ·rw [if_neg (fun hh=>e hh.1),if_neg e]
theorem step_frm {r:Run} (ok:Ok r) {n:Nat} (hn:n < r.found.length) {w:WayS} (hw:WayOK r w) (hl:w.frm.length=n) :
  (step r n w).map (·.frm)=((fnd r n).frm.map fun m=>w.frm ++ [m]).filter (canBe r) /\ ∀ v,v ∈ step r n w->WayOK r v:=by
 have:∀ L:List Int,(∀ x,x ∈ L->0<=x/\x < r.machines.length)->(L.filterMap (one r n w)).map (·.frm)=(L.map fun m=>w.frm ++ [m]).filter (canBe r) /\ ∀ v,v ∈ L.filterMap (one r n w)->WayOK r v:=by
  intro L
  induction L with
  | nil=>intro _; exact ⟨rfl,fun v h=>by cases h⟩
  | cons x L ih =>
   intro hL
   obtain ⟨h1,h2⟩:=one_ok ok hn hw hl (hL x (List.mem_cons_self ..))
   obtain ⟨i1,i2⟩:=ih fun y hy=>hL y (List.mem_cons_of_mem _ hy)
   cases e:canBe r (w.frm ++ [x]) with
   | true =>
    rw [e] at h1
    have ho:one r n w x=some ⟨w.frm ++ [x],(see (fnd r n) x.toNat w.whn).2⟩:=by rw [one,if_pos h1]
    rw [List.filterMap_cons_some ho,List.map_cons (f:=fun m=>w.frm ++ [m]),List.filter_cons_of_pos e]
    refine ⟨by simp only [List.map_cons,i1],fun v hv => ?_⟩
    rcases List.mem_cons.1 hv with rfl | hv
    ·exact h2 h1
    ·exact i2 v hv
   | false =>
    rw [e] at h1
    have ho:one r n w x=none:=by rw [one,h1]; rfl
    rw [List.filterMap_cons_none ho,List.map_cons,List.filter_cons_of_neg (by rw [e]; exact Bool.false_ne_true)]
    exact ⟨i1,i2⟩
 exact this _ fun x hx=>frm_range ok hn hx
theorem waysTo_link {r:Run} (ok:Ok r):∀ n,n<=r.found.length->(waysTo r n).map (·.frm)=(chFrom r [] n).filter (canBe r) /\ ∀ w,w ∈ waysTo r n->WayOK r w:=by
 intro n
 induction n with
 | zero =>
  intro _
  have hs:∀ m,m < r.machines.length -> ∀ p:Nat,(p:Int) < r.plates->firstWhn r r.machines.length m p=spanOf r [] m p:=by
   intro m hm p hp
   have:=(ok.mach m hm).1
   unfold firstWhn
   rw [if_pos hm,if_pos (by omega)]; rfl
  have hc:canBe r []=true:=by
   rw [canBe_iff ok]
   intro m hm p hp
   have h1:=(ok.mach m hm).1
   have h2:=ok.span m hm p (by omega)
   show (chg (mach r m) p).lo<=(chg (mach r m) p).hi
   omega
  refine ⟨?_,fun w hw => ?_⟩
  ·show [([]:List Int)]=List.filter (canBe r) [[]]
   rw [List.filter_cons_of_pos hc]; rfl
  ·have:w=⟨[],firstWhn r r.machines.length⟩:=by simpa [waysTo] using hw
   subst this
   exact ⟨hc,hs⟩
 | succ n ih =>
  intro hn
  obtain ⟨h1,h2⟩:=ih (by omega)
  have hst:=fun w hw=>step_frm ok (n:=n) (by omega) (h2 w hw) (waysTo_frm n w hw)
  refine ⟨?_,fun v hv => ?_⟩
  ·rw [waysTo,chFrom,List.map_flatMap,filter_flatMap _ _ (canBe r) (canBe r) (fun l hl hf x hx => ?_),← h1,List.flatMap_map]
   ·have:∀ L:List WayS,(∀ w,w ∈ L->w ∈ waysTo r n)->L.flatMap (fun w=>(step r n w).map (·.frm))=L.flatMap fun w=>((fnd r w.frm.length).frm.map fun m=>w.frm ++ [m]).filter (canBe r):=by
     intro L
     induction L with
     | nil=>intro _; rfl
     | cons w L ihL =>
      intro hL
      rw [List.flatMap_cons,List.flatMap_cons,ihL (fun v hv=>hL v (List.mem_cons_of_mem _ hv)),(hst w (hL w (List.mem_cons_self ..))).1,waysTo_frm n w (hL w (List.mem_cons_self ..))]
    exact this _ fun w hw=>hw
   ·obtain ⟨m,_,rfl⟩:=List.mem_map.1 hx
    cases e:canBe r (l ++ [m]) with
    | false=>rfl
    | true=>rw [canBe_snoc ok e] at hf; cases hf
  ·rw [waysTo,List.mem_flatMap] at hv
   obtain ⟨w,hw,hv⟩:=hv
   exact (hst w hw).2 v hv
theorem ways_froms {r:Run} (ok:Ok r):(waysOf r).map (·.frm)=fromsOf r:=by
 rw [waysOf,(waysTo_link ok _ (Nat.le_refl _)).1,fromsOf,choices_from]
theorem way_ok {r:Run} (ok:Ok r) {w:WayS} (h:w ∈ waysOf r):WayOK r w:=(waysTo_link ok _ (Nat.le_refl _)).2 w h
theorem ways_len {r:Run} (ok:Ok r):(waysOf r).length=(fromsOf r).length:=by rw [← ways_froms ok,List.length_map]
theorem open_eq (r:Run) (is:Bool):openE r is=rfE r is:=by
 unfold openE rfE
 split
 ·rename_i h
  rw [ways_len (ok_of (check_zero.1 h))]
 ·rfl
end Go.Sh
namespace Go.Sh
theorem rf_zero {r:Run} {is:Bool} (h:rfE r is=0):Ok r/\is=true:=⟨ok_of (check_zero.1 (rfE_zero h).1),(rfE_zero h).2.1⟩
theorem way_rd {r:Run} (ok:Ok r) {f p:Nat} (hf:f < r.found.length) (hp:(p:Int) < r.plates) {w:WayS} (h:w ∈ waysOf r):rdS w f p=rdL r f p w.frm/\(rdS w f p).lo<=(rdS w f p).hi:=by
 have h1:=way_mach ok h hf
 have h2:=way_ok ok h
 have h3:rdS w f p=rdL r f p w.frm:=h2.2 _ (by omega) p hp
 refine ⟨h3,?_⟩
 rw [h3]
 exact (canBe_iff ok).1 h2.1 _ (by omega) p hp
theorem cnt_all (l:List WayS) (P:WayS->Bool):cnt l P l.length=l.countP P:=by rw [cnt,List.take_length]
theorem read_eq (r:Run) (f p:Int):readS r f p=readR r f p:=by
 unfold readS readR
 rw [open_eq]
 split
 ·rename_i h0
  obtain ⟨ok,his⟩:=rf_zero h0
  obtain ⟨a1,a2,a3,a4,_⟩:=readIs_ok ok his
  have hw:=fun w (h:w ∈ waysOf r)=>way_rd ok (f:=f.toNat) (p:=p.toNat) (by omega) (by omega) h
  rw [cnt_all,cnt_all]
  have hold:oldTo r (fromsOf r) f.toNat p.toNat (fromsOf r).length=(waysOf r).any fun w=>decide ((rdS w f.toNat p.toNat).hi > (fnd r f.toNat).minute):=by
   rw [oldTo,List.take_length,← ways_froms ok,List.any_map,Bool.eq_iff_iff,List.any_eq_true,List.any_eq_true]
   constructor
   ·rintro ⟨w,h1,h2⟩; exact ⟨w,h1,by rw [(hw w h1).1]; exact h2⟩
   ·rintro ⟨w,h1,h2⟩; exact ⟨w,h1,by rw [(hw w h1).1] at h2; exact h2⟩
  have hnew:newTo r (fromsOf r) f.toNat p.toNat (fromsOf r).length=(waysOf r).any fun w=>decide ((rdS w f.toNat p.toNat).lo<=(fnd r f.toNat).minute):=by
   rw [newTo,List.take_length,← ways_froms ok,List.any_map,Bool.eq_iff_iff,List.any_eq_true,List.any_eq_true]
   constructor
   ·rintro ⟨w,h1,h2⟩; exact ⟨w,h1,by rw [(hw w h1).1]; exact h2⟩
   ·rintro ⟨w,h1,h2⟩; exact ⟨w,h1,by rw [(hw w h1).1] at h2; exact h2⟩
  rw [hold,hnew]
  unfold known3
  by_cases c1:(waysOf r).countP (rdSo r f.toNat p.toNat)=(waysOf r).length
  ·rw [if_pos (by rw [c1])]
   rw [List.countP_eq_length] at c1
   have:((waysOf r).any fun w=>decide ((rdS w f.toNat p.toNat).hi > (fnd r f.toNat).minute))=false:=by
    rw [List.any_eq_false]
    intro w h1 h2
    have h3:=c1 w h1
    simp only [rdSo,decide_eq_true_eq] at h3 h2
    omega
   rw [this]; rfl
  ·rw [if_neg (by omega)]
   have:((waysOf r).any fun w=>decide ((rdS w f.toNat p.toNat).hi > (fnd r f.toNat).minute))=true:=by
    rw [List.countP_eq_length] at c1
    rw [List.any_eq_true]
    apply Classical.byContradiction
    intro hn
    refine c1 fun w h1 => ?_
    simp only [rdSo,decide_eq_true_eq]
    apply Classical.byContradiction
    intro h2
    exact hn ⟨w,h1,by simp only [decide_eq_true_eq]; omega⟩
   rw [this,if_pos rfl]
   by_cases c2:(waysOf r).countP (rdNot r f.toNat p.toNat)=(waysOf r).length
   ·rw [if_pos (by rw [c2])]
    rw [List.countP_eq_length] at c2
    have:((waysOf r).any fun w=>decide ((rdS w f.toNat p.toNat).lo<=(fnd r f.toNat).minute))=false:=by
     rw [List.any_eq_false]
     intro w h1 h2
     have h3:=c2 w h1
     simp only [rdNot,Bool.and_eq_true,decide_eq_true_eq] at h3 h2
     omega
    rw [this]; rfl
   ·rw [if_neg (by omega)]
    have:((waysOf r).any fun w=>decide ((rdS w f.toNat p.toNat).lo<=(fnd r f.toNat).minute))=true:=by
     rw [List.countP_eq_length] at c2
     rw [List.any_eq_true]
     apply Classical.byContradiction
     intro hn
     refine c2 fun w h1 => ?_
     have h2:¬ (rdS w f.toNat p.toNat).lo<=(fnd r f.toNat).minute:=fun h=>hn ⟨w,h1,by simpa using h⟩
     have h4:=(hw w h1).2
     simp only [rdNot,rdSo,Bool.and_eq_true,Bool.not_eq_true',decide_eq_true_eq,decide_eq_false_iff_not]
     omega
    rw [this]; rfl
 ·rfl
end Go.Sh
namespace Go.Sh
end Go.Sh
namespace Go.Ab
open Go Go.RowKit Go.Proofs Go.Sh Go.En
end Go.Ab
namespace Go.Ab
open Go Go.RowKit Go.Proofs Go.Sh Go.En
end Go.Ab
namespace Go.Sh
theorem map_getD {l:List WayS} {i:Nat} (h:i < l.length):(l.map (·.frm)).getD i []=(l.getD i default).frm:=by
 rw [Go.Ab.getD_lt _ _ (by simpa using h),Go.Ab.getD_lt _ _ h,List.getElem_map]
theorem hull_eq {l:List WayS} {F:WayS->Span} {G:List Int->Span} (hl:0 < l.length) (h:∀ w,w ∈ l->F w=G w.frm):hullOf l F=rhull (l.map (·.frm)) G:=by
 have:∀ n,n<=l.length->hullTo l F n=rhullTo (l.map (·.frm)) G n:=by
  intro n
  induction n with
  | zero =>
   intro _
   show F (l.getD 0 default)=G ((l.map (·.frm)).getD 0 [])
   rw [map_getD hl]
   exact h _ (Go.Ab.getD_mem _ default hl)
  | succ n ih =>
   intro hn
   rw [hullTo_succ,rhullTo_succ,ih (by omega),map_getD (by omega),h _ (Go.Ab.getD_mem _ default (by omega))]
 rw [hullOf,rhull,this _ (Nat.le_refl _),List.length_map]
theorem ways_pos {r:Run} {is:Bool} (h:rfE r is=0):0 < (waysOf r).length:=by
 obtain ⟨ok,_⟩:=rf_zero h
 rw [ways_len ok]; exact (rfE_zero h).2.2
theorem when_eq (r:Run) (m p:Int):whenS r m p=whenR r m p:=by
 unfold whenS whenR
 rw [open_eq]
 split
 ·rename_i h0
  obtain ⟨ok,his⟩:=rf_zero h0
  obtain ⟨a1,a2,a3,a4⟩:=whenIs_ok ok his
  rw [← ways_froms ok]
  exact hull_eq (ways_pos h0) fun w hw=>(way_ok ok hw).2 _ a2 _ a4
 ·rfl
theorem same_eq (r:Run) (a b:Int):sameS r a b=sameR r a b:=by
 unfold sameS sameR
 rw [open_eq]
 split
 ·rename_i h0
  obtain ⟨ok,his⟩:=rf_zero h0
  have hp:=ways_pos h0
  rw [cnt_all,cntL,List.take_length,← ways_froms ok,List.countP_map,List.length_map]
  have hc:(waysOf r).countP (smL a.toNat b.toNat ∘ fun x=>x.frm)=(waysOf r).countP (smSo a.toNat b.toNat):=rfl
  rw [hc]
  have hle:=List.countP_le_length (p:=smSo a.toNat b.toNat) (l:=waysOf r)
  unfold known3 knownOf
  generalize (waysOf r).countP (smSo a.toNat b.toNat)=c at *
  by_cases c0:c=0
  ·subst c0
   rw [if_neg (by omega),if_pos (by omega)]; rfl
  ·by_cases c1:c=(waysOf r).length
   ·rw [if_pos (by omega),if_neg (by omega),if_pos (by omega)]
   ·rw [if_neg (by omega),if_neg (by omega),if_neg (by omega),if_neg (by omega)]
 ·rfl
theorem count_range:∀ (M:Nat) (K:List Int),K.Nodup->(∀ x,x ∈ K->0<=x/\x < M)->K.length=(List.range M).countP (fun m:Nat=>decide ((m:Int) ∈ K)):=by
 intro M
 induction M with
 | zero =>
  intro K _ h
  cases K with
  | nil=>rfl
  | cons x K=>have:=h x (List.mem_cons_self ..); omega
 | succ M ih =>
  intro K hn h
  have h1:=ih (K.filter (fun x => !decide (x=(M:Int)))) (hn.filter _) (fun x hx=>by
   rw [List.mem_filter] at hx
   have:=h x hx.1
   have h2:x ≠ (M:Int):=by simpa using hx.2
   omega)
  have h2:K.length=(K.filter (fun x => !decide (x=(M:Int)))).length + if (M:Int) ∈ K then 1 else 0:=by
   clear ih h1 h
   induction K with
   | nil=>rfl
   | cons x K ihK =>
    have hnc:=List.nodup_cons.1 hn
    have:=ihK hnc.2
    by_cases e:x=(M:Int)
    ·subst e
     have hf:(K.filter (fun x => !decide (x=(M:Int))))=K:=by
      rw [List.filter_eq_self]
      intro y hy
      simp only [Bool.not_eq_true',decide_eq_false_iff_not]
      intro e; subst e; exact hnc.1 hy
     rw [List.filter_cons_of_neg (by simp),hf,if_pos (List.mem_cons_self ..)]; rfl
    ·rw [List.filter_cons_of_pos (by simpa using e),List.length_cons,List.length_cons,this]
     by_cases hm:(M:Int) ∈ K
     ·rw [if_pos hm,if_pos (List.mem_cons_of_mem _ hm)]
     ·rw [if_neg hm,if_neg (by simp only [List.mem_cons,not_or]; exact ⟨fun e'=>e e'.symm,hm⟩)]
  rw [h2,h1,List.range_succ,List.countP_append,List.countP_singleton]
  congr 1
  ·apply List.countP_congr
   intro m hm
   have hlt:=List.mem_range.1 hm
   simp only [List.mem_filter,Bool.not_eq_true',decide_eq_false_iff_not,decide_eq_true_eq]
   constructor
   ·exact fun hh=>hh.1
   ·exact fun hh=>⟨hh,by omega⟩
  ·by_cases hm:(M:Int) ∈ K <;> simp [hm]
theorem isIn_mem {l:List Int} {x:Int}:isIn l x=true ↔ x ∈ l:=by
 unfold isIn; simp
theorem logTo_keys (l:List Int):∀ n,n<=l.length->(Go.Ab.mkeys (logTo l n)).Nodup /\ ∀ x,x ∈ Go.Ab.mkeys (logTo l n) ↔ x ∈ l.take n:=by
 intro n
 induction n with
 | zero=>intro _; exact ⟨List.nodup_nil,fun x=>by simp [logTo,Go.Ab.mkeys]⟩
 | succ n ih =>
  intro hn
  obtain ⟨h1,h2⟩:=ih (by omega)
  rw [logTo_succ,Go.Ab.mkeys_snoc,Go.Ab.take_succ _ 0 (by omega)]
  split
  ·rename_i hm
   refine ⟨h1,fun x => ?_⟩
   rw [h2,List.mem_append,List.mem_singleton]
   constructor
   ·exact .inl
   ·rintro (h | rfl)
    ·exact h
    ·exact (h2 _).1 hm
  ·rename_i hm
   refine ⟨?_,fun x => ?_⟩
   ·rw [List.nodup_append]
    refine ⟨h1,by simp,?_⟩
    intro a ha b hb e
    rw [List.mem_singleton] at hb
    subst e; subst hb
    exact hm ha
   ·rw [List.mem_append,List.mem_append,h2]
theorem used_eq {l:List Int} {M:Nat} (h:∀ x,x ∈ l->0<=x/\x < M):usedW l=usedTo l M:=by
 obtain ⟨h1,h2⟩:=logTo_keys l l.length (Nat.le_refl _)
 rw [List.take_length] at h2
 unfold usedW usedTo
 rw [count_range M _ h1 (fun x hx=>h x ((h2 x).1 hx))]
 apply List.countP_congr
 intro m _
 rw [decide_eq_true_eq,h2,isIn_mem]
theorem few_eq (r:Run):fewP r=fewR r:=by
 unfold fewP fewR
 rw [open_eq]
 split
 ·rename_i h0
  obtain ⟨ok,_⟩:=rf_zero h0
  have:∀ n,n<=(waysOf r).length->fewPTo r (waysOf r) n=fewTo r (fromsOf r) n:=by
   intro n
   induction n with
   | zero=>intro _; rfl
   | succ n ih =>
    intro hn
    rw [fewPTo_succ,fewTo_succ,ih (by omega),← ways_froms ok,map_getD (by omega)]
    have hm:=Go.Ab.getD_mem (waysOf r) default (show n < (waysOf r).length by omega)
    rw [used_eq (M:=r.machines.length) (fun x hx => ?_)]
    obtain ⟨i,hi,rfl⟩:=List.getElem_of_mem hx
    have:=way_mach ok hm (i:=i) (by rw [← way_frm hm]; exact hi)
    rw [Go.Ab.getD_lt _ _ hi] at this
    exact this
  rw [this _ (Nat.le_refl _),ways_len ok]
 ·rfl
theorem sorted_ext:∀ (l m:List Int),l.Pairwise (· < ·)->m.Pairwise (· < ·)->(∀ x,x ∈ l ↔ x ∈ m)->l=m:=by
 intro l
 induction l with
 | nil =>
  intro m _ _ h
  cases m with
  | nil=>rfl
  | cons y m=>exact absurd ((h y).2 (List.mem_cons_self ..)) (by simp)
 | cons x l ih =>
  intro m hl hm h
  cases m with
  | nil=>exact absurd ((h x).1 (List.mem_cons_self ..)) (by simp)
  | cons y m =>
   obtain ⟨l1,l2⟩:=List.pairwise_cons.1 hl
   obtain ⟨m1,m2⟩:=List.pairwise_cons.1 hm
   have e:x=y:=by
    rcases List.mem_cons.1 ((h x).1 (List.mem_cons_self ..)) with e | e
    ·exact e
    ·rcases List.mem_cons.1 ((h y).2 (List.mem_cons_self ..)) with e2 | e2
     ·exact e2.symm
     ·have:=m1 x e; have:=l1 y e2; omega
   subst e
   rw [ih m l2 m2 (fun z => ?_)]
   constructor
   ·intro hz
    rcases List.mem_cons.1 ((h z).1 (List.mem_cons_of_mem _ hz)) with e | e
    ·have:=l1 z hz; omega
    ·exact e
   ·intro hz
    rcases List.mem_cons.1 ((h z).2 (List.mem_cons_of_mem _ hz)) with e | e
    ·have:=m1 z hz; omega
    ·exact e
theorem get_bang (zs:List Int) (j:Nat):zs.toArray[j]! = zs.getD j 0:=by simp [List.getD]
theorem compact_sorted {zs:List Int} (h:zs.Pairwise (· <= ·)):(compactI zs).Pairwise (· < ·) /\ ∀ x,x ∈ compactI zs ↔ x ∈ zs:=by
 have hle:∀ i j,i<=j->j < zs.length->zs.getD i 0<=zs.getD j 0:=by
  intro i j hij hj
  by_cases e:i=j
  ·subst e; exact Int.le_refl _
  ·rw [Go.Ab.getD_lt _ _ hj,Go.Ab.getD_lt _ _ (by omega)]
   exact List.pairwise_iff_getElem.1 h i j (by omega) hj (by omega)
 have key:∀ m,m<=zs.length->(Go.Lib.compactUpTo zs.toArray m).Pairwise (· < ·) /\ ∀ x,x ∈ Go.Lib.compactUpTo zs.toArray m ↔ ∃ j,j < m/\zs.getD j 0=x:=by
  intro m
  induction m with
  | zero=>intro _; exact ⟨List.Pairwise.nil,fun x=>by simp [Go.Lib.compactUpTo]⟩
  | succ m ih =>
   intro hm
   obtain ⟨h1,h2⟩:=ih (by omega)
   rw [Go.Lib.compactUpTo_succ]
   by_cases hk:Go.Lib.keeps zs.toArray m=true
   ·rw [if_pos hk,get_bang]
    refine ⟨?_,fun x => ?_⟩
    ·rw [List.pairwise_append]
     refine ⟨h1,List.pairwise_singleton _ _,fun a ha b hb => ?_⟩
     rw [List.mem_singleton] at hb
     subst hb
     obtain ⟨j,hj,rfl⟩:=(h2 a).1 ha
     have a1:=hle j (m - 1) (by omega) (by omega)
     have a2:=hle (m - 1) m (by omega) (by omega)
     have a3:zs.getD m 0 ≠ zs.getD (m - 1) 0:=by
      unfold Go.Lib.keeps at hk
      rw [get_bang,get_bang] at hk
      intro e
      rw [e] at hk
      have:m ≠ 0:=by omega
      simp [this] at hk
     omega
    ·rw [List.mem_append,List.mem_singleton,h2]
     constructor
     ·rintro (⟨j,hj,e⟩ | e)
      ·exact ⟨j,by omega,e⟩
      ·exact ⟨m,by omega,e.symm⟩
     ·rintro ⟨j,hj,e⟩
      by_cases ej:j=m
      ·subst ej; exact .inr e.symm
      ·exact .inl ⟨j,by omega,e⟩
   ·rw [if_neg hk,List.append_nil]
    refine ⟨h1,fun x => ?_⟩
    rw [h2]
    have hm0:m ≠ 0:=by
     intro e; subst e
     exact hk (Go.Lib.keeps_lt_one _ 0 (by omega))
    have he:zs.getD m 0=zs.getD (m - 1) 0:=by
     apply Classical.byContradiction
     intro hne
     apply hk
     unfold Go.Lib.keeps
     rw [get_bang,get_bang]
     exact decide_eq_true (.inr hne)
    constructor
    ·rintro ⟨j,hj,e⟩; exact ⟨j,by omega,e⟩
    ·rintro ⟨j,hj,e⟩
     by_cases ej:j=m
     ·subst ej; exact ⟨j - 1,by omega,by rw [← he]; exact e⟩
     ·exact ⟨j,by omega,e⟩
 obtain ⟨h1,h2⟩:=key zs.length (Nat.le_refl _)
 refine ⟨h1,fun x => ?_⟩
 show x ∈ Go.Lib.compactUpTo zs.toArray zs.length ↔ _
 rw [h2]
 constructor
 ·rintro ⟨j,hj,rfl⟩; exact Go.Ab.getD_mem _ 0 hj
 ·intro hx
  obtain ⟨j,hj,e⟩:=List.getElem_of_mem hx
  exact ⟨j,hj,by rw [Go.Ab.getD_lt _ _ hj]; exact e⟩
theorem sortI_sorted (l:List Int):(sortI l).Pairwise (· <= ·):=by
 have:=List.pairwise_mergeSort (le:=fun x y:Int=>decide (x<=y)) (fun a b c h1 h2=>by simp only [decide_eq_true_eq] at *; omega) (fun a b=>by simp only [Bool.or_eq_true,decide_eq_true_eq]; omega) l
 simpa [sortI] using this
theorem sortI_mem {l:List Int} {x:Int}:x ∈ sortI l ↔ x ∈ l:=(List.mergeSort_perm l _).mem_iff
theorem where_ways {r:Run} (ok:Ok r) {f:Nat} (hf:f < r.found.length):whereP (waysOf r) f=whereOf r (fromsOf r) f:=by
 obtain ⟨h1,h2⟩:=compact_sorted (sortI_sorted (wf (waysOf r) f))
 refine sorted_ext _ _ h1 ?_ fun x => ?_
 ·unfold whereOf whTo
  rw [List.pairwise_map]
  exact ((List.pairwise_lt_range).filter _).imp (fun h=>by omega)
 ·show x ∈ compactI (sortI (wf (waysOf r) f)) ↔ _
  rw [h2,sortI_mem]
  unfold whereOf whTo wf anyF
  rw [List.take_length,← ways_froms ok]
  simp only [List.mem_map,List.mem_filter,List.mem_range,List.any_eq_true,decide_eq_true_eq]
  constructor
  ·rintro ⟨w,hw,rfl⟩
   have:=way_mach ok hw hf
   refine ⟨(w.frm.getD f 0).toNat,⟨by omega,w.frm,⟨w,hw,rfl⟩,by omega⟩,by omega⟩
  ·rintro ⟨m,⟨_,y,⟨w,hw,rfl⟩,e⟩,rfl⟩
   exact ⟨w,hw,e⟩
theorem where_eq (r:Run) (f:Int):whereS r f=whereR r f:=by
 unfold whereS whereR
 rw [open_eq]
 split
 ·rename_i h0
  obtain ⟨ok,his⟩:=rf_zero h0
  simp only [isFound,Go.Sh.within_iff] at his
  exact where_ways ok (by omega)
 ·rfl
end Go.Sh
namespace Go.Sh
theorem sumTo_congr {r:Run} {f g:Nat->Span}:∀ n,n<=r.machines.length->(∀ m,m < n->f m=g m)->sumTo r f n=sumTo r g n:=by
 intro n
 induction n with
 | zero=>intro _ _; rfl
 | succ n ih =>
  intro h1 h2
  rw [sumTo_succ,sumTo_succ,ih (by omega) (fun m hm=>h2 m (by omega)),h2 n (by omega)]
theorem old_eq (r:Run) (p:Int):oldS r p=oldR r p:=by
 unfold oldS oldR
 rw [open_eq]
 split
 ·rename_i h0
  obtain ⟨ok,his⟩:=rf_zero h0
  obtain ⟨a1,a2,_⟩:=plateIs_ok ok his
  rw [← ways_froms ok]
  exact hull_eq (ways_pos h0) fun w hw=>sumTo_congr _ (Nat.le_refl _) fun m hm=>(way_ok ok hw).2 m hm p.toNat (by omega)
 ·rfl
theorem spread_minutes {g h:Nat->Span} {n:Nat} (hn:1<=n/\n<=3) (he:∀ p,p < n->g p=h p) (hs:∀ p,p < n->(h p).lo<=(h p).hi):spread g n=minutes h n:=by
 have h0:=he 0 (by omega)
 have s0:=hs 0 (by omega)
 have:n=1 ∨ n=2 ∨ n=3:=by omega
 rcases this with rfl | rfl | rfl
 ·simp only [spread,minutes,sprTo,minTo,minIn,sprIn,List.range_succ,List.range_zero,List.nil_append,List.foldl_cons,List.foldl_nil,if_true,h0]
  congr 1 <;> omega
 ·have h1:=he 1 (by omega)
  have s1:=hs 1 (by omega)
  simp only [spread,minutes,sprTo,minTo,minIn,sprIn,List.range_succ,List.range_zero,List.nil_append,List.cons_append,List.foldl_cons,List.foldl_nil,if_true,h0,h1]
  simp only [show ¬ (0:Nat)=1 by omega,show ¬ (1:Nat)=0 by omega,if_false]
  congr 1 <;> omega
 ·have h1:=he 1 (by omega)
  have s1:=hs 1 (by omega)
  have h2:=he 2 (by omega)
  have s2:=hs 2 (by omega)
  simp only [spread,minutes,sprTo,minTo,minIn,sprIn,List.range_succ,List.range_zero,List.nil_append,List.cons_append,List.foldl_cons,List.foldl_nil,if_true,h0,h1,h2]
  simp only [show ¬ (0:Nat)=1 by omega,show ¬ (1:Nat)=0 by omega,show ¬ (0:Nat)=2 by omega,show ¬ (2:Nat)=0 by omega,show ¬ (1:Nat)=2 by omega,show ¬ (2:Nat)=1 by omega,if_false]
  congr 1 <;> omega
theorem way_spread {r:Run} (ok:Ok r) {w:WayS} (hw:w ∈ waysOf r) {m:Nat} (hm:m < r.machines.length):spread (w.whn m) r.plates.toNat=minutes (spanOf r w.frm m) r.plates.toNat:=by
 have hp:=ok.plates
 have h:=way_ok ok hw
 exact spread_minutes (by omega) (fun p hlt=>h.2 m hm p (by omega)) (fun p hlt=>(canBe_iff ok).1 h.1 m hm p (by omega))
theorem way_mix {r:Run} (ok:Ok r) {w:WayS} (hw:w ∈ waysOf r):mixF r w=mixL r w.frm:=sumTo_congr _ (Nat.le_refl _) fun _ hm=>way_spread ok hw hm
theorem minutes_le {h:Nat->Span} {n:Nat} (hn:1<=n/\n<=3) (hs:∀ p,p < n->(h p).lo<=(h p).hi):(minutes h n).lo<=(minutes h n).hi:=by
 have s0:=hs 0 (by omega)
 have:n=1 ∨ n=2 ∨ n=3:=by omega
 rcases this with rfl | rfl | rfl
 ·simp only [minutes,minTo,minIn,List.range_succ,List.range_zero,List.nil_append,List.foldl_cons,List.foldl_nil,if_true]
  omega
 ·have s1:=hs 1 (by omega)
  simp only [minutes,minTo,minIn,List.range_succ,List.range_zero,List.nil_append,List.cons_append,List.foldl_cons,List.foldl_nil,if_true]
  simp only [show ¬ (0:Nat)=1 by omega,show ¬ (1:Nat)=0 by omega,if_false]
  omega
 ·have s1:=hs 1 (by omega)
  have s2:=hs 2 (by omega)
  simp only [minutes,minTo,minIn,List.range_succ,List.range_zero,List.nil_append,List.cons_append,List.foldl_cons,List.foldl_nil,if_true]
  simp only [show ¬ (0:Nat)=1 by omega,show ¬ (1:Nat)=0 by omega,show ¬ (0:Nat)=2 by omega,show ¬ (2:Nat)=0 by omega,show ¬ (1:Nat)=2 by omega,show ¬ (2:Nat)=1 by omega,if_false]
  omega
theorem mixed_eq (r:Run) (m:Int):mixedS r m=mixedR r m:=by
 unfold mixedS mixedR
 rw [open_eq]
 split
 ·rename_i h0
  obtain ⟨ok,his⟩:=rf_zero h0
  have hm:=machIs_ok his
  have hpl:=ok.plates
  have hw:∀ w,w ∈ waysOf r->spread (w.whn m.toNat) r.plates.toNat=minutes (spanOf r w.frm m.toNat) r.plates.toNat/\(minutes (spanOf r w.frm m.toNat) r.plates.toNat).lo<=(minutes (spanOf r w.frm m.toNat) r.plates.toNat).hi:=by
   intro w h
   refine ⟨way_spread ok h (by omega),minutes_le (by omega) fun p hp => ?_⟩
   exact (canBe_iff ok).1 (way_ok ok h).1 _ (by omega) p (by omega)
  have hsu:suTo r (fromsOf r) m.toNat (fromsOf r).length=(waysOf r).all (mxSo r m.toNat):=by
   rw [suTo,List.take_length,← ways_froms ok,List.all_map,Bool.eq_iff_iff,List.all_eq_true,List.all_eq_true]
   constructor
   ·intro h w h1; have:=h w h1; rw [mxSo,(hw w h1).1]; exact this
   ·intro h w h1; have:=h w h1; rw [mxSo,(hw w h1).1] at this; exact this
  have hnv:nvTo r (fromsOf r) m.toNat (fromsOf r).length=(waysOf r).all (mxNot r m.toNat):=by
   rw [nvTo,List.take_length,← ways_froms ok,List.all_map,Bool.eq_iff_iff,List.all_eq_true,List.all_eq_true]
   constructor
   ·intro h w h1
    have h2:=h w h1
    have h3:=(hw w h1).2
    simp only [Function.comp_apply,decide_eq_true_eq] at h2
    rw [mxNot,mxSo,(hw w h1).1]
    simp only [Bool.and_eq_true,Bool.not_eq_true',decide_eq_true_eq,decide_eq_false_iff_not]
    omega
   ·intro h w h1
    have h2:=h w h1
    rw [mxNot,mxSo,(hw w h1).1] at h2
    simp only [Bool.and_eq_true] at h2
    exact h2.2
  rw [cnt_all,cnt_all,hsu,hnv]
  unfold known3
  by_cases c1:(waysOf r).countP (mxSo r m.toNat)=(waysOf r).length
  ·rw [if_pos (by rw [c1]),if_pos (by rw [List.all_eq_true]; exact List.countP_eq_length.1 c1)]
  ·rw [if_neg (by omega),if_neg (fun h=>c1 (List.countP_eq_length.2 (List.all_eq_true.1 h)))]
   by_cases c2:(waysOf r).countP (mxNot r m.toNat)=(waysOf r).length
   ·rw [if_pos (by rw [c2]),if_pos (by rw [List.all_eq_true]; exact List.countP_eq_length.1 c2)]
   ·rw [if_neg (by omega),if_neg (fun h=>c2 (List.countP_eq_length.2 (List.all_eq_true.1 h)))]
 ·rfl
end Go.Sh
namespace Go.Sh
def rated (t:Int) (m:Mach):Mach:=⟨m.changes,Go.Ab.wr (m.rate * t)⟩
def ratedR (r:Run) (t:Int):Run:=⟨r.plates,r.last,r.machines.map (rated t),r.found⟩
theorem spanTo_narrow (r:Run) (l:List Int) (m p:Nat):∀ n,(chg (mach r m) p).lo<=(spanTo r l m p n).lo/\(spanTo r l m p n).hi<=(chg (mach r m) p).hi:=by
 intro n
 induction n with
 | zero=>exact ⟨Int.le_refl _,Int.le_refl _⟩
 | succ n ih =>
  rw [spanTo_succ]
  unfold spanStep
  split
  ·split
   ·exact ⟨ih.1,Int.le_trans (Int.min_le_left _ _) ih.2⟩
   ·split
    ·exact ⟨Int.le_trans ih.1 (Int.le_max_left _ _),ih.2⟩
    ·exact ih
  ·exact ih
def hb (s:Span):Prop:=0<=s.lo/\s.lo<=s.hi/\s.hi<=30
theorem way_hb {r:Run} (ok:Ok r) {w:WayS} (hw:w ∈ waysOf r) {m p:Nat} (hm:m < r.machines.length) (hp:(p:Int) < r.plates):hb (w.whn m p):=by
 have h:=way_ok ok hw
 have h1:=ok.mach m hm
 have h2:=ok.span m hm p (by omega)
 have h3:=spanTo_narrow r w.frm m p w.frm.length
 have h4:=(canBe_iff ok).1 h.1 m hm p hp
 have h5:=ok.last
 rw [h.2 m hm p hp]
 unfold spanOf at h4 ⊢
 exact ⟨by omega,h4,by omega⟩
theorem sum_hb {r:Run} (ok:Ok r) {f:Nat->Span} (hf:∀ m,m < r.machines.length->hb (f m)):∀ n,n<=r.machines.length->0<=(sumTo r f n).lo/\(sumTo r f n).lo<=(sumTo r f n).hi/\(sumTo r f n).hi<=270 * n:=by
 intro n
 induction n with
 | zero=>intro _; simp [sumTo]
 | succ n ih =>
  intro hn
  have h1:=ih (by omega)
  have h2:=(ok.mach n (by omega)).2
  have h3:=hf n (by omega)
  rw [sumTo_succ]
  have a1:=Int.mul_nonneg h2.1 h3.1
  have a2:=Int.mul_le_mul_of_nonneg_left h3.2.1 h2.1
  have a3:(mach r n).rate * (f n).hi<=9 * 30:=Int.mul_le_mul h2.2 h3.2.2 (Int.le_trans h3.1 h3.2.1) (by decide)
  simp only
  omega
theorem hull_in {l:List WayS} {F:WayS->Span} {k:Int} (hl:0 < l.length) (h:∀ w,w ∈ l->0<=(F w).lo/\(F w).lo<=(F w).hi/\(F w).hi<=k):0<=(hullOf l F).lo/\(hullOf l F).lo<=(hullOf l F).hi/\(hullOf l F).hi<=k:=by
 have:∀ n,n<=l.length->0<=(hullTo l F n).lo/\(hullTo l F n).lo<=(hullTo l F n).hi/\(hullTo l F n).hi<=k:=by
  intro n
  induction n with
  | zero=>intro _; exact h _ (Go.Ab.getD_mem _ default hl)
  | succ n ih =>
   intro hn
   have h1:=ih (by omega)
   have h2:=h _ (Go.Ab.getD_mem l default (show n < l.length by omega))
   rw [hullTo_succ]
   simp only [hull2]
   omega
 exact this _ (Nat.le_refl _)
theorem minutes_hb {h:Nat->Span} {n:Nat} (hn:1<=n/\n<=3) (hs:∀ p,p < n->hb (h p)):hb (minutes h n):=by
 have hle:=minutes_le hn fun p hp=>(hs p hp).2.1
 have s0:=hs 0 (by omega)
 have:n=1 ∨ n=2 ∨ n=3:=by omega
 unfold hb at *
 rcases this with rfl | rfl | rfl
 ·refine ⟨?_,hle,?_⟩ <;> (simp only [minutes,minTo,minIn,List.range_succ,List.range_zero,List.nil_append,List.foldl_cons,List.foldl_nil,if_true]; omega)
 ·have s1:=hs 1 (by omega)
  refine ⟨?_,hle,?_⟩ <;> (simp only [minutes,minTo,minIn,List.range_succ,List.range_zero,List.nil_append,List.cons_append,List.foldl_cons,List.foldl_nil,if_true]; simp only [show ¬ (0:Nat)=1 by omega,show ¬ (1:Nat)=0 by omega,if_false]; omega)
 ·have s1:=hs 1 (by omega)
  have s2:=hs 2 (by omega)
  refine ⟨?_,hle,?_⟩ <;> (simp only [minutes,minTo,minIn,List.range_succ,List.range_zero,List.nil_append,List.cons_append,List.foldl_cons,List.foldl_nil,if_true]; simp only [show ¬ (0:Nat)=1 by omega,show ¬ (1:Nat)=0 by omega,show ¬ (0:Nat)=2 by omega,show ¬ (2:Nat)=0 by omega,show ¬ (1:Nat)=2 by omega,show ¬ (2:Nat)=1 by omega,if_false]; omega)
structure RatesF (r:Run) (t p:Int):Prop where
 ok:Ok r
 tt:0<=t/\t<=9
 e1:openE r (isPlate r p)=0
 e2:openE (ratedR r t) (isPlate (ratedR r t) p)=0
 e3:openE r true=0
 e4:openE (ratedR r t) true=0
 old:0<=(oldS r p).lo/\(oldS r p).lo<=(oldS r p).hi/\(oldS r p).hi<=810
 mix:0<=(mixesS r).lo/\(mixesS r).lo<=(mixesS r).hi/\(mixesS r).hi<=810
 old2:oldS (ratedR r t) p=⟨(oldS r p).lo * t,(oldS r p).hi * t⟩
 mix2:mixesS (ratedR r t)=⟨(mixesS r).lo * t,(mixesS r).hi * t⟩
end Go.Sh
namespace Go.Sh
def okAt (c:Fnd) (p:Nat) (n:Int):Prop:=(c.new.getD p 0=0->c.minute + 1<=n)/\(c.new.getD p 0=1->n<=c.minute)
theorem spanTo_lo (r:Run) (l:List Int) (m p:Nat) (n:Int):∀ k,(spanTo r l m p k).lo<=n ↔ (chg (mach r m) p).lo<=n /\ ∀ i,i < k->l.getD i 0=(m:Int)->(fnd r i).new.getD p 0=0->(fnd r i).minute + 1<=n:=by
 intro k
 induction k with
 | zero=>exact ⟨fun h=>⟨h,fun i hi=>by omega⟩,fun h=>h.1⟩
 | succ k ih =>
  rw [spanTo_succ]
  have step:(spanStep r l m p (spanTo r l m p k) k).lo<=n ↔ (spanTo r l m p k).lo<=n/\(l.getD k 0=(m:Int)->(fnd r k).new.getD p 0=0->(fnd r k).minute + 1<=n):=by
   unfold spanStep
   by_cases h1:l.getD k 0=(m:Int)
   ·rw [if_pos h1]
    by_cases h2:(fnd r k).new.getD p 0=1
    ·rw [if_pos h2]
     exact ⟨fun h=>⟨h,fun _ h3=>by omega⟩,fun h=>h.1⟩
    ·rw [if_neg h2]
     by_cases h3:(fnd r k).new.getD p 0=0
     ·rw [if_pos h3]
      show max _ _<=n ↔ _
      rw [Int.max_le]
      exact ⟨fun h=>⟨h.1,fun _ _=>h.2⟩,fun h=>⟨h.1,h.2 h1 h3⟩⟩
     ·rw [if_neg h3]
      exact ⟨fun h=>⟨h,fun _ h4=>absurd h4 h3⟩,fun h=>h.1⟩
   ·rw [if_neg h1]
    exact ⟨fun h=>⟨h,fun h2=>absurd h2 h1⟩,fun h=>h.1⟩
  rw [step,ih]
  constructor
  ·rintro ⟨⟨h1,h2⟩,h3⟩
   refine ⟨h1,fun i hi => ?_⟩
   by_cases e:i=k
   ·subst e; exact h3
   ·exact h2 i (by omega)
  ·rintro ⟨h1,h2⟩
   exact ⟨⟨h1,fun i hi=>h2 i (by omega)⟩,h2 k (by omega)⟩
theorem spanTo_hi (r:Run) (l:List Int) (m p:Nat) (n:Int):∀ k,n<=(spanTo r l m p k).hi ↔ n<=(chg (mach r m) p).hi /\ ∀ i,i < k->l.getD i 0=(m:Int)->(fnd r i).new.getD p 0=1->n<=(fnd r i).minute:=by
 intro k
 induction k with
 | zero=>exact ⟨fun h=>⟨h,fun i hi=>by omega⟩,fun h=>h.1⟩
 | succ k ih =>
  rw [spanTo_succ]
  have step:n<=(spanStep r l m p (spanTo r l m p k) k).hi ↔ n<=(spanTo r l m p k).hi/\(l.getD k 0=(m:Int)->(fnd r k).new.getD p 0=1->n<=(fnd r k).minute):=by
   unfold spanStep
   by_cases h1:l.getD k 0=(m:Int)
   ·rw [if_pos h1]
    by_cases h2:(fnd r k).new.getD p 0=1
    ·rw [if_pos h2]
     show n<=min _ _ ↔ _
     rw [Int.le_min]
     exact ⟨fun h=>⟨h.1,fun _ _=>h.2⟩,fun h=>⟨h.1,h.2 h1 h2⟩⟩
    ·rw [if_neg h2]
     by_cases h3:(fnd r k).new.getD p 0=0
     ·rw [if_pos h3]
      exact ⟨fun h=>⟨h,fun _ h4=>absurd h4 h2⟩,fun h=>h.1⟩
     ·rw [if_neg h3]
      exact ⟨fun h=>⟨h,fun _ h4=>absurd h4 h2⟩,fun h=>h.1⟩
   ·rw [if_neg h1]
    exact ⟨fun h=>⟨h,fun h2=>absurd h2 h1⟩,fun h=>h.1⟩
  rw [step,ih]
  constructor
  ·rintro ⟨⟨h1,h2⟩,h3⟩
   refine ⟨h1,fun i hi => ?_⟩
   by_cases e:i=k
   ·subst e; exact h3
   ·exact h2 i (by omega)
  ·rintro ⟨h1,h2⟩
   exact ⟨⟨h1,fun i hi=>h2 i (by omega)⟩,h2 k (by omega)⟩
theorem spanOf_lo {r:Run} {l:List Int} {m p:Nat} {n:Int}:(spanOf r l m p).lo<=n ↔ (chg (mach r m) p).lo<=n /\ ∀ i,i < l.length->l.getD i 0=(m:Int)->(fnd r i).new.getD p 0=0->(fnd r i).minute + 1<=n:=spanTo_lo r l m p n l.length
theorem spanOf_hi {r:Run} {l:List Int} {m p:Nat} {n:Int}:n<=(spanOf r l m p).hi ↔ n<=(chg (mach r m) p).hi /\ ∀ i,i < l.length->l.getD i 0=(m:Int)->(fnd r i).new.getD p 0=1->n<=(fnd r i).minute:=spanTo_hi r l m p n l.length
theorem spanOf_mem {r:Run} {l:List Int} {m p:Nat} {n:Int}:((spanOf r l m p).lo<=n/\n<=(spanOf r l m p).hi) ↔ ((chg (mach r m) p).lo<=n/\n<=(chg (mach r m) p).hi) /\ ∀ i,i < l.length->l.getD i 0=(m:Int)->okAt (fnd r i) p n:=by
 rw [spanOf_lo,spanOf_hi]
 constructor
 ·rintro ⟨⟨h1,h2⟩,h3,h4⟩
  exact ⟨⟨h1,h3⟩,fun i hi he=>⟨h2 i hi he,h4 i hi he⟩⟩
 ·rintro ⟨⟨h1,h3⟩,h2⟩
  exact ⟨⟨h1,fun i hi he=>(h2 i hi he).1⟩,h3,fun i hi he=>(h2 i hi he).2⟩
theorem mem_chFrom {r:Run}:∀ k (l:List Int),l ∈ chFrom r [] k ↔ l.length=k /\ ∀ i,i < k->l.getD i 0 ∈ (fnd r i).frm:=by
 intro k
 induction k with
 | zero =>
  intro l
  simp only [chFrom,List.mem_singleton]
  constructor
  ·rintro rfl; exact ⟨rfl,fun i hi=>by omega⟩
  ·rintro ⟨h,_⟩; exact List.length_eq_zero_iff.1 h
 | succ k ih =>
  intro l
  simp only [chFrom,List.mem_flatMap,List.mem_map]
  constructor
  ·rintro ⟨a,ha,m,hm,rfl⟩
   obtain ⟨h1,h2⟩:=(ih a).1 ha
   refine ⟨by simp [h1],fun i hi => ?_⟩
   rw [Go.Ab.getD_append]
   split
   ·exact h2 i (by omega)
   ·have:i=a.length:=by omega
    subst this
    rw [Nat.sub_self]; exact hm
  ·rintro ⟨h1,h2⟩
   rcases List.eq_nil_or_concat l with rfl | ⟨a,x,rfl⟩
   ·simp at h1
   ·rw [List.concat_eq_append] at h1 h2 ⊢
    have hl:a.length=k:=by simpa using h1
    refine ⟨a,(ih a).2 ⟨hl,fun i hi => ?_⟩,x,?_,rfl⟩
    ·have:=h2 i (by omega)
     rwa [Go.Ab.getD_append,if_pos (by omega)] at this
    ·have:=h2 k (by omega)
     rw [Go.Ab.getD_append,if_neg (by omega),hl,Nat.sub_self] at this
     rw [hl]; exact this
theorem mem_froms {r:Run} {l:List Int}:l ∈ fromsOf r ↔ (l.length=r.found.length /\ ∀ i,i < r.found.length->l.getD i 0 ∈ (fnd r i).frm)/\canBe r l=true:=by
 rw [fromsOf,List.mem_filter,choices_from,mem_chFrom]
theorem froms_in {r:Run} (ok:Ok r) {l:List Int} (h:l ∈ fromsOf r) {i:Nat} (hi:i < r.found.length):0<=l.getD i 0/\l.getD i 0 < r.machines.length:=frm_range ok hi (fromsOf_frm h hi)
theorem froms_le {r:Run} (ok:Ok r) {l:List Int} (h:l ∈ fromsOf r) {m p:Nat} (hm:m < r.machines.length) (hp:(p:Int) < r.plates):(spanOf r l m p).lo<=(spanOf r l m p).hi:=(canBe_iff ok).1 (mem_froms.1 h).2 m hm p hp
theorem spanOf_narrow (r:Run) (l:List Int) (m p:Nat):(chg (mach r m) p).lo<=(spanOf r l m p).lo/\(spanOf r l m p).hi<=(chg (mach r m) p).hi :=
 ⟨(spanOf_lo.1 (Int.le_refl _)).1,(spanOf_hi.1 (Int.le_refl _)).1⟩
theorem froms_hb {r:Run} (ok:Ok r) {l:List Int} (h:l ∈ fromsOf r) {m p:Nat} (hm:m < r.machines.length) (hp:(p:Int) < r.plates):0<=(spanOf r l m p).lo/\(spanOf r l m p).lo<=(spanOf r l m p).hi/\(spanOf r l m p).hi<=r.last:=by
 have h1:=spanOf_narrow r l m p
 have h2:=froms_le ok h hm hp
 have h3:=ok.mach m hm
 have h4:=ok.span m hm p (by omega)
 omega
theorem rhull_spec {l:List (List Int)} (F:List Int->Span) (h:0 < l.length):(∀ x,x ∈ l->(rhull l F).lo<=(F x).lo/\(F x).hi<=(rhull l F).hi)/\(∃ x,x ∈ l/\(rhull l F).lo=(F x).lo) /\ ∃ x,x ∈ l/\(rhull l F).hi=(F x).hi:=by
 have:∀ n,n<=l.length->(∀ i,i < n->(rhullTo l F n).lo<=(F (l.getD i [])).lo/\(F (l.getD i [])).hi<=(rhullTo l F n).hi)/\(∃ x,x ∈ l/\(rhullTo l F n).lo=(F x).lo) /\ ∃ x,x ∈ l/\(rhullTo l F n).hi=(F x).hi:=by
  intro n
  induction n with
  | zero=>intro _; exact ⟨fun i hi=>by omega,⟨_,Go.Ab.getD_mem l [] h,rfl⟩,⟨_,Go.Ab.getD_mem l [] h,rfl⟩⟩
  | succ n ih =>
   intro hn
   obtain ⟨h1,⟨x,hx,ex⟩,y,hy,ey⟩:=ih (by omega)
   have hm:=Go.Ab.getD_mem l [] (show n < l.length by omega)
   rw [rhullTo_succ]
   simp only [hull2]
   refine ⟨fun i hi => ?_,?_,?_⟩
   ·by_cases e:i=n
    ·subst e; omega
    ·have:=h1 i (by omega); omega
   ·by_cases c:(rhullTo l F n).lo<=(F (l.getD n [])).lo
    ·exact ⟨x,hx,by omega⟩
    ·exact ⟨_,hm,by omega⟩
   ·by_cases c:(F (l.getD n [])).hi<=(rhullTo l F n).hi
    ·exact ⟨y,hy,by omega⟩
    ·exact ⟨_,hm,by omega⟩
 obtain ⟨h1,h2,h3⟩:=this _ (Nat.le_refl _)
 refine ⟨fun x hx => ?_,h2,h3⟩
 obtain ⟨i,hi,rfl⟩:=List.getElem_of_mem hx
 have:=h1 i hi
 rw [Go.Ab.getD_lt _ _ hi] at this
 exact this
structure One (r:Run):Prop where
 ok:Ok r
 zero:∀ is,is=true->rfE r is=0
 pos:0 < (fromsOf r).length
theorem one_ex {r:Run} (h:One r):∃ x,x ∈ fromsOf r:=List.exists_mem_of_length_pos h.pos
theorem one_of {r:Run} (ok:okRun r=true) {x:List Int} (h:x ∈ fromsOf r):One r:=by
 have hp:=List.length_pos_of_mem h
 exact ⟨ok_of ok,fun is hi=>by rw [rfE,if_pos (check_zero.2 ok),if_pos hi,if_neg (by omega)],hp⟩
theorem ready_ok {r:Run} (h:ready r=true):okRun r=true:=by
 simp only [ready,Bool.and_eq_true,decide_eq_true_eq] at h
 exact check_zero.1 h.2
theorem when_val {r:Run} (h:One r) {m p:Int} (hi:whenIs r m p=true):whenS r m p=rhull (fromsOf r) (fun l=>spanOf r l m.toNat p.toNat)/\openE r (whenIs r m p)=0:=by
 rw [when_eq,open_eq,whenR,h.zero _ hi]; exact ⟨rfl,rfl⟩
theorem few_val {r:Run} (h:One r):fewP r=fewTo r (fromsOf r) (fromsOf r).length/\openE r true=0:=by
 rw [few_eq,open_eq,fewR,h.zero _ rfl]; exact ⟨rfl,rfl⟩
theorem few_spec {r:Run} (h:One r):(∀ x,x ∈ fromsOf r->fewP r<=usedTo x r.machines.length)/\0<=fewP r/\fewP r<=r.machines.length /\ ∃ x,x ∈ fromsOf r/\fewP r=usedTo x r.machines.length:=by
 rw [(few_val h).1]
 have hu:∀ x,(usedTo x r.machines.length:Int)<=r.machines.length:=fun x=>by have:=usedTo_le x r.machines.length; omega
 have:∀ n,n<=(fromsOf r).length->(∀ i,i < n->fewTo r (fromsOf r) n<=usedTo ((fromsOf r).getD i []) r.machines.length)/\0<=fewTo r (fromsOf r) n/\fewTo r (fromsOf r) n<=r.machines.length/\(n=0 ∨ ∃ x,x ∈ fromsOf r/\fewTo r (fromsOf r) n=usedTo x r.machines.length):=by
  intro n
  induction n with
  | zero=>intro _; exact ⟨fun i hi=>by omega,Int.natCast_nonneg _,Int.le_refl _,.inl rfl⟩
  | succ n ih =>
   intro hn
   obtain ⟨h1,h2,h3,h4⟩:=ih (by omega)
   have hm:=Go.Ab.getD_mem (fromsOf r) [] (show n < (fromsOf r).length by omega)
   have hb:=hu ((fromsOf r).getD n [])
   rw [fewTo_succ]
   refine ⟨fun i hi => ?_,by omega,by omega,.inr ?_⟩
   ·by_cases e:i=n
    ·subst e; omega
    ·have:=h1 i (by omega); omega
   ·by_cases c:fewTo r (fromsOf r) n < usedTo ((fromsOf r).getD n []) r.machines.length
    ·rcases h4 with h4 | ⟨x,hx,e⟩
     ·subst h4
      have:fewTo r (fromsOf r) 0=r.machines.length:=rfl
      omega
     ·exact ⟨x,hx,by omega⟩
    ·exact ⟨_,hm,by omega⟩
 obtain ⟨h1,h2,h3,h4⟩:=this _ (Nat.le_refl _)
 have hp:=h.pos
 refine ⟨fun x hx => ?_,h2,h3,?_⟩
 ·obtain ⟨i,hi,rfl⟩:=List.getElem_of_mem hx
  have:=h1 i hi
  rw [Go.Ab.getD_lt _ _ hi] at this
  exact this
 ·rcases h4 with h4 | h4
  ·omega
  ·exact h4
end Go.Sh
namespace Go.Sh
structure Tld where
 when:List Span
 old:List Span
 whr:List (List Int)
 mixed:List Int
 mixes:Span
 fewest:Int
 deriving DecidableEq,Inhabited
def wAt (r:Run) (i:Nat):Span:=whenS r ((i / r.plates.toNat:Nat):Int) ((i % r.plates.toNat:Nat):Int)
def tWhen (r:Run) (n:Nat):List Span:=(List.range n).map (wAt r)
def tOld (r:Run) (n:Nat):List Span:=(List.range n).map fun p:Nat=>oldS r (p:Int)
def tWhr (r:Run) (n:Nat):List (List Int):=(List.range n).map fun i:Nat=>whereS r (i:Int)
def tMix (r:Run) (n:Nat):List Int:=(List.range n).map fun m:Nat=>mixedS r (m:Int)
def toldOf (r:Run):Tld:=⟨tWhen r (r.machines.length * r.plates.toNat),tOld r r.plates.toNat,tWhr r r.found.length,tMix r r.machines.length,mixesS r,fewP r⟩
theorem mapRange_get {α:Type} (f:Nat->α) (d:α) {n i:Nat} (h:i < n):((List.range n).map f).getD i d=f i:=by
 rw [Go.Ab.getD_lt _ _ (by simpa using h)]; simp
theorem tWhen_get (r:Run) {n i:Nat} (h:i < n):(tWhen r n).getD i default=wAt r i:=mapRange_get _ _ h
theorem tOld_get (r:Run) {n i:Nat} (h:i < n):(tOld r n).getD i default=oldS r (i:Int):=mapRange_get _ _ h
theorem tWhr_get (r:Run) {n i:Nat} (h:i < n):(tWhr r n).getD i []=whereS r (i:Int):=mapRange_get _ _ h
theorem tMix_get (r:Run) {n i:Nat} (h:i < n):(tMix r n).getD i 0=mixedS r (i:Int):=mapRange_get _ _ h
theorem tWhen_len (r:Run) (n:Nat):(tWhen r n).length=n:=by simp [tWhen]
theorem tOld_len (r:Run) (n:Nat):(tOld r n).length=n:=by simp [tOld]
theorem tWhr_len (r:Run) (n:Nat):(tWhr r n).length=n:=by simp [tWhr]
theorem tMix_len (r:Run) (n:Nat):(tMix r n).length=n:=by simp [tMix]
theorem idx_div {P m k:Nat} (hk:k < P):(m * P + k) / P=m/\(m * P + k) % P=k:=by
 have hp:0 < P:=by omega
 rw [Nat.mul_comm]
 exact ⟨by rw [Nat.mul_add_div hp,Nat.div_eq_of_lt hk,Nat.add_zero],by rw [Nat.mul_add_mod,Nat.mod_eq_of_lt hk]⟩
theorem wAt_idx (r:Run) {m k:Nat} (hk:(k:Int) < r.plates):wAt r (m * r.plates.toNat + k)=whenS r (m:Int) (k:Int):=by
 have hk2:k < r.plates.toNat:=by omega
 unfold wAt
 rw [(idx_div hk2).1,(idx_div hk2).2]
theorem whenIs_nat {r:Run} (ok:Ok r) {m p:Nat} (hm:m < r.machines.length) (hp:(p:Int) < r.plates):whenIs r (m:Int) (p:Int)=true:=by
 have:=ok.plates
 simp only [whenIs,isMachine,isPlate,Bool.and_eq_true,within_iff,plates_wr ok]
 omega
theorem isMachine_nat {r:Run} {m:Nat} (hm:m < r.machines.length):isMachine r (m:Int)=true:=by
 simp only [isMachine,within_iff]; omega
theorem isFound_nat {r:Run} {i:Nat} (hi:i < r.found.length):isFound r (i:Int)=true:=by
 simp only [isFound,within_iff]; omega
theorem isPlate_nat {r:Run} (ok:Ok r) {p:Nat} (hp:(p:Int) < r.plates):isPlate r (p:Int)=true:=by
 have:=ok.plates
 simp only [isPlate,within_iff,plates_wr ok]; omega
theorem one_open {r:Run} (h:One r) {is:Bool} (hi:is=true):openE r is=0:=by rw [open_eq]; exact h.zero _ hi
theorem when_in {r:Run} (h:One r) {m p:Nat} (hm:m < r.machines.length) (hp:(p:Int) < r.plates):inside (whenS r m p) (chg (mach r m) p)=true:=by
 have hi:=whenIs_nat h.ok hm hp
 obtain ⟨s1,⟨x,hx,ex⟩,y,hy,ey⟩:=rhull_spec (fun l=>spanOf r l m p) h.pos
 have hw:=(when_val h hi).1
 simp only [Int.toNat_natCast] at hw
 rw [hw]
 have h1:=spanOf_narrow r x m p
 have h2:=spanOf_narrow r y m p
 have h3:=froms_le h.ok hx hm hp
 have h4:=s1 x hx
 simp only [inside,Bool.and_eq_true,decide_eq_true_eq]
 try simp only at ex ey h4
 omega
theorem old_val {r:Run} (h:One r) {p:Nat} (hp:(p:Int) < r.plates):oldS r (p:Int)=rhull (fromsOf r) (oldL r p):=by
 rw [old_eq,oldR,if_pos (h.zero _ (isPlate_nat h.ok hp)),Int.toNat_natCast]
theorem mixes_val {r:Run} (h:One r):mixesS r=rhull (fromsOf r) (mixL r):=by
 have hw:0 < (waysOf r).length:=by rw [ways_len h.ok]; exact h.pos
 rw [mixesS,if_pos (one_open h rfl),hull_eq (G:=mixL r) hw (fun w hw=>way_mix h.ok hw),ways_froms h.ok]
theorem mixed_val {r:Run} (h:One r) {m:Nat} (hm:m < r.machines.length):mixedS r (m:Int)=if (∀ x,x ∈ fromsOf r->0 < (minutes (spanOf r x m) r.plates.toNat).lo) then 1 else if (∀ x,x ∈ fromsOf r->(minutes (spanOf r x m) r.plates.toNat).hi=0) then 2 else 3:=by
 rw [mixed_eq,mixedR,if_pos (h.zero _ (isMachine_nat hm)),Int.toNat_natCast]
 have e1:suTo r (fromsOf r) m (fromsOf r).length=true ↔ ∀ x,x ∈ fromsOf r->0 < (minutes (spanOf r x m) r.plates.toNat).lo:=by
  rw [suTo,List.take_length,List.all_eq_true]; simp only [decide_eq_true_eq,gt_iff_lt]
 have e2:nvTo r (fromsOf r) m (fromsOf r).length=true ↔ ∀ x,x ∈ fromsOf r->(minutes (spanOf r x m) r.plates.toNat).hi=0:=by
  rw [nvTo,List.take_length,List.all_eq_true]; simp only [decide_eq_true_eq]
 by_cases c1:∀ x,x ∈ fromsOf r->0 < (minutes (spanOf r x m) r.plates.toNat).lo
 ·rw [if_pos (e1.2 c1),if_pos c1]
 ·rw [if_neg (fun hh=>c1 (e1.1 hh)),if_neg c1]
  by_cases c2:∀ x,x ∈ fromsOf r->(minutes (spanOf r x m) r.plates.toNat).hi=0
  ·rw [if_pos (e2.2 c2),if_pos c2]
  ·rw [if_neg (fun hh=>c2 (e2.1 hh)),if_neg c2]
theorem mixed_range {r:Run} (h:One r) {m:Nat} (hm:m < r.machines.length):within (mixedS r (m:Int)) 1 3=true:=by
 rw [mixed_val h hm,within_iff]
 split
 ·omega
 ·split <;> omega
theorem where_val {r:Run} (h:One r) {i:Nat} (hi:i < r.found.length):whereS r (i:Int)=whereOf r (fromsOf r) i:=by
 rw [where_eq,whereR,if_pos (h.zero _ (isFound_nat hi)),Int.toNat_natCast]
theorem mem_where {r:Run} {l:List (List Int)} {i:Nat} {v:Int}:v ∈ whereOf r l i ↔ ∃ m:Nat,m < r.machines.length/\v=(m:Int) /\ ∃ x,x ∈ l/\x.getD i 0=(m:Int):=by
 unfold whereOf whTo anyF
 simp only [List.mem_map,List.mem_filter,List.mem_range,List.take_length,List.any_eq_true,decide_eq_true_eq]
 constructor
 ·rintro ⟨m,⟨h1,x,h2,h3⟩,rfl⟩; exact ⟨m,h1,rfl,x,h2,h3⟩
 ·rintro ⟨m,h1,rfl,x,h2,h3⟩; exact ⟨m,⟨h1,x,h2,h3⟩,rfl⟩
theorem mem_whereS {r:Run} (h:One r) {i:Nat} (hi:i < r.found.length) {v:Int}:v ∈ whereS r (i:Int) ↔ ∃ x,x ∈ fromsOf r/\x.getD i 0=v:=by
 rw [where_val h hi,mem_where]
 constructor
 ·rintro ⟨m,h1,rfl,x,h2,h3⟩; exact ⟨x,h2,h3⟩
 ·rintro ⟨x,h2,rfl⟩
  have:=froms_in h.ok h2 hi
  exact ⟨(x.getD i 0).toNat,by omega,by omega,x,h2,by omega⟩
theorem rising_of {l:List Int} {lo hi:Int} (h1:∀ x,x ∈ l->lo<=x/\x<=hi) (h2:l.Pairwise (· < ·)):rising l lo hi=true:=by
 unfold rising
 rw [List.all_eq_true]
 intro i hi
 have hi:=List.mem_range.1 hi
 unfold risAt
 rw [Bool.and_eq_true,within_iff]
 refine ⟨h1 _ (Go.Ab.getD_mem _ _ hi),?_⟩
 simp only [Bool.or_eq_true,Bool.not_eq_true',decide_eq_false_iff_not]
 by_cases e:i=0
 ·left; omega
 ·right
  have:=List.pairwise_iff_getElem.1 h2 (i - 1) i (by omega) hi (by omega)
  rw [Go.Ab.getD_lt _ _ hi,Go.Ab.getD_lt _ _ (by omega)]
  omega
theorem where_rising {r:Run} (l:List (List Int)) (i:Nat):rising (whereOf r l i) 0 ((r.machines.length:Int) - 1)=true:=by
 refine rising_of (fun x hx => ?_) ?_
 ·obtain ⟨m,h1,rfl,_⟩:=mem_where.1 hx; omega
 ·unfold whereOf whTo
  rw [List.pairwise_map]
  exact ((List.pairwise_lt_range (n:=r.machines.length)).filter _).imp fun h=>by omega
theorem where_facts {r:Run} (h:One r) {i:Nat} (hi:i < r.found.length):(whereS r (i:Int)).length ≠ 0/\(whereS r (i:Int)).length<=3/\rising (whereS r (i:Int)) 0 ((r.machines.length:Int) - 1)=true:=by
 have hr:rising (whereS r (i:Int)) 0 ((r.machines.length:Int) - 1)=true:=by rw [where_val h hi]; exact where_rising _ _
 refine ⟨?_,?_,hr⟩
 ·obtain ⟨x,hx⟩:=one_ex h
  have:=(mem_whereS h hi).2 ⟨x,hx,rfl⟩
  intro e
  rw [List.length_eq_zero_iff.1 e] at this
  cases this
 ·have:=rising_len hr
  have:=h.ok.machines
  omega
theorem old_in {r:Run} (h:One r) {p:Nat} (hp:(p:Int) < r.plates):0<=(oldS r (p:Int)).lo/\(oldS r (p:Int)).lo<=(oldS r (p:Int)).hi/\(oldS r (p:Int)).hi<=810:=by
 have hw:0 < (waysOf r).length:=by rw [ways_len h.ok]; exact h.pos
 rw [oldS,if_pos (one_open h (isPlate_nat h.ok hp)),Int.toNat_natCast]
 refine hull_in hw fun w hw => ?_
 have:=sum_hb h.ok (f:=fun m=>w.whn m p) (fun m hm=>way_hb h.ok hw hm hp) _ (Nat.le_refl _)
 have:=h.ok.machines
 show 0<=(sumTo r _ _).lo/\(sumTo r _ _).lo<=(sumTo r _ _).hi/\(sumTo r _ _).hi<=810
 omega
theorem mixes_in {r:Run} (h:One r):0<=(mixesS r).lo/\(mixesS r).lo<=(mixesS r).hi/\(mixesS r).hi<=810:=by
 have hw:0 < (waysOf r).length:=by rw [ways_len h.ok]; exact h.pos
 have hpl:=h.ok.plates
 rw [mixesS,if_pos (one_open h rfl)]
 refine hull_in hw fun w hw => ?_
 have:=sum_hb h.ok (f:=fun m=>spread (w.whn m) r.plates.toNat) (fun m hm=>by
  rw [way_spread h.ok hw hm]
  exact minutes_hb (by omega) fun q hq=>by
   have:=(way_ok h.ok hw).2 m hm q (by omega)
   rw [← this]; exact way_hb h.ok hw hm (by omega)) _ (Nat.le_refl _)
 have:=h.ok.machines
 show 0<=(sumTo r _ _).lo/\(sumTo r _ _).lo<=(sumTo r _ _).hi/\(sumTo r _ _).hi<=810
 omega
theorem few_val0 {r:Run} (h:One r):0<=fewP r/\fewP r<=r.machines.length:=⟨(few_spec h).2.1,(few_spec h).2.2.1⟩
theorem minutes_nn (g:Nat->Span) {n:Nat} (hn:1<=n/\n<=3):0<=(minutes g n).lo/\0<=(minutes g n).hi:=by
 have:n=1 ∨ n=2 ∨ n=3:=by omega
 rcases this with rfl | rfl | rfl
 ·refine ⟨?_,?_⟩ <;> (simp only [minutes,minTo,minIn,List.range_succ,List.range_zero,List.nil_append,List.foldl_cons,List.foldl_nil,if_true]; omega)
 ·refine ⟨?_,?_⟩ <;> (simp only [minutes,minTo,minIn,List.range_succ,List.range_zero,List.nil_append,List.cons_append,List.foldl_cons,List.foldl_nil,if_true]; simp only [show ¬ (0:Nat)=1 by omega,show ¬ (1:Nat)=0 by omega,if_false]; omega)
 ·refine ⟨?_,?_⟩ <;> (simp only [minutes,minTo,minIn,List.range_succ,List.range_zero,List.nil_append,List.cons_append,List.foldl_cons,List.foldl_nil,if_true]; simp only [show ¬ (0:Nat)=1 by omega,show ¬ (1:Nat)=0 by omega,show ¬ (0:Nat)=2 by omega,show ¬ (2:Nat)=0 by omega,show ¬ (1:Nat)=2 by omega,show ¬ (2:Nat)=1 by omega,if_false]; omega)
structure Clear (x y:Tld):Prop where
 wl:x.when.length=y.when.length/\x.when.length<=65536
 ol:x.old.length=y.old.length/\x.old.length<=65536
 ml:x.mixed.length=y.mixed.length/\x.mixed.length<=65536
 hl:y.whr.length<=x.whr.length/\x.whr.length<=65536
 mixes:inside x.mixes y.mixes=true
 few:y.fewest<=x.fewest
 when:∀ i,i < x.when.length->inside (x.when.getD i default) (y.when.getD i default)=true
 old:∀ i,i < x.old.length->inside (x.old.getD i default) (y.old.getD i default)=true
 mixed:∀ i,i < x.mixed.length->y.mixed.getD i 0=3 ∨ x.mixed.getD i 0=y.mixed.getD i 0
 whr:∀ i,i < y.whr.length->(∀ k,k < (x.whr.getD i []).length->isIn (y.whr.getD i []) ((x.whr.getD i []).getD k 0)=true)/\(x.whr.getD i []).length<=65536/\(y.whr.getD i []).length<=65536
structure Finer (o r:Run) (φ:List Int->List Int):Prop where
 ro:One r
 oo:One o
 ml:o.machines.length=r.machines.length
 pl:o.plates=r.plates
 rate:∀ m,m < r.machines.length->(mach o m).rate=(mach r m).rate
 mem:∀ x,x ∈ fromsOf o->φ x ∈ fromsOf r
 span:∀ x,x ∈ fromsOf o -> ∀ m,m < r.machines.length -> ∀ p:Nat,(p:Int) < r.plates->(spanOf r (φ x) m p).lo<=(spanOf o x m p).lo/\(spanOf o x m p).hi<=(spanOf r (φ x) m p).hi
 sub:∀ x,x ∈ fromsOf o -> ∀ v,v ∈ φ x->v ∈ x
end Go.Sh
namespace Go.Sh
structure TellF (r:Run):Prop where
 okb:okRun r=true
 one:One r
theorem tellF {r:Run} (h:okRun r=true) (h2:isOne r=true):TellF r:=by
 have:0 < (fromsOf r).length:=by simp only [isOne,decide_eq_true_eq] at h2; omega
 obtain ⟨x,hx⟩:=List.exists_mem_of_length_pos this
 exact ⟨h,one_of h hx⟩
end Go.Sh
namespace Go.En
open Go Go.Ab Go.Sh
def cTld (x:Tld):List AV:=[aSpans x.when,aSpans x.old,aIntss x.whr,aInts x.mixed,iv x.mixes.lo,iv x.mixes.hi,iv x.fewest]
abbrev vTld (x:Tld):AV := .agg (cTld x)
end Go.En
namespace Go.Ab
open Go Go.RowKit Go.Proofs Go.Sh Go.En
def s47 (r:Run):CallSpec:={ args:=[vRun r],res := .tup [vTld (toldOf r),bv true],pre:=fits r/\okRun r=true/\isOne r=true }
def h47a (r:Run):Hint:={ X:=Nat,M:=fun m=>[(5,iv m),(4,.ptr 5000 [])],H:=fun m=>[(5000,.cells 62 [.vec 5001,nilv,nilv,.vec 5002,iv 0,iv 0,iv 0]),(5001,.vec 37 2 (m * r.plates.toNat) (fun k=>cSpan (wAt r k))),(5002,.vec 3 1 m (fun k=>[iv (mixedS r k)]))],I:=fun m=>m<=r.machines.length,mu:=fun m=>r.machines.length - m,x0:=(0:Nat),nx:=fun m=>m + 1 }
def h47b (r:Run) (m:Nat):Hint:={ X:=Nat,M:=fun p=>[(6,iv p),(4,.ptr 5003 [])],H:=fun p=>[(5003,.cells 62 [.vec 5004,nilv,nilv,.vec 5005,iv 0,iv 0,iv 0]),(5004,.vec 37 2 (m * r.plates.toNat + p) (fun k=>cSpan (wAt r k))),(5005,.vec 3 1 m (fun k=>[iv (mixedS r k)]))],I:=fun p=>p<=r.plates.toNat,mu:=fun p=>r.plates.toNat - p,x0:=(0:Nat),nx:=fun p=>p + 1 }
def h47c (r:Run):Hint:={ X:=Nat,M:=fun p=>[(11,iv p),(4,.ptr 5006 [])],H:=fun p=>[(5006,.cells 62 [.vec 5007,.vec 5008,nilv,.vec 5009,iv 0,iv 0,iv 0]),(5007,.vec 37 2 (r.machines.length * r.plates.toNat) (fun k=>cSpan (wAt r k))),(5008,.vec 37 2 p (fun k=>cSpan (oldS r k))),(5009,.vec 3 1 r.machines.length (fun k=>[iv (mixedS r k)]))],I:=fun p=>p<=r.plates.toNat,mu:=fun p=>r.plates.toNat - p,x0:=(0:Nat),nx:=fun p=>p + 1 }
def h47d (r:Run):Hint:={ X:=Nat,M:=fun i=>[(14,iv i),(4,.ptr 5010 [])],H:=fun i=>[(5010,.cells 62 [.vec 5011,.vec 5012,.vec 5013,.vec 5014,iv 0,iv 0,iv 0]),(5011,.vec 37 2 (r.machines.length * r.plates.toNat) (fun k=>cSpan (wAt r k))),(5012,.vec 37 2 r.plates.toNat (fun k=>cSpan (oldS r k))),(5013,.vec 30 1 i (fun k=>[aInts (whereS r k)])),(5014,.vec 3 1 r.machines.length (fun k=>[iv (mixedS r k)]))],I:=fun i=>i<=r.found.length,mu:=fun i=>r.found.length - i,x0:=(0:Nat),nx:=fun i=>i + 1 }
end Go.Ab
namespace Go.Ab
open Go Go.RowKit Go.Proofs Go.Sh Go.En
abbrev q47_1 (r:Run) (C:Prop):Prop:=fits r/\okRun r=true/\isOne r=true->C
abbrev q47_2 (r:Run) (C:Nat->Prop):Prop:=q47_1 r (∀ (x0:Nat),x0<=r.machines.length->decide ((x0:Int) < (↑(r.machines.length):Int))=true->C x0)
abbrev q47_3 (r:Run) (C:Nat->Nat->Prop):Prop:=q47_2 r fun x0 => ∀ (x2:Nat),x2<=r.plates.toNat->decide ((x2:Int) < r.plates)=true->C x0 x2
abbrev q47_4 (r:Run) (C:Nat->Nat->Prop):Prop:=q47_3 r fun x0 x2=>(!!decide (openE r (whenIs r (x0:Int) (x2:Int))=0))->C x0 x2
abbrev q47_5 (r:Run) (C:Nat->Nat->Prop):Prop:=q47_2 r fun x0 => ∀ (x2:Nat),x2<=r.plates.toNat->decide ((x2:Int) < r.plates)=false->C x0 x2
abbrev q47_6 (r:Run) (C:Nat->Prop):Prop:=q47_1 r (∀ (x0:Nat),x0<=r.machines.length->decide ((x0:Int) < (↑(r.machines.length):Int))=false->C x0)
abbrev q47_7 (r:Run) (C:Nat->Nat->Prop):Prop:=q47_6 r fun x0 => ∀ (x50:Nat),x50<=r.plates.toNat->decide ((x50:Int) < r.plates)=true->C x0 x50
abbrev q47_8 (r:Run) (C:Nat->Nat->Prop):Prop:=q47_6 r fun x0 => ∀ (x50:Nat),x50<=r.plates.toNat->decide ((x50:Int) < r.plates)=false->C x0 x50
abbrev q47_9 (r:Run) (C:Nat->Nat->Nat->Prop):Prop:=q47_8 r fun x0 x50 => ∀ (x70:Nat),x70<=r.found.length->decide ((x70:Int) < (↑(r.found.length):Int))=true->C x0 x50 x70
abbrev q47_10 (r:Run) (C:Nat->Nat->Nat->Prop):Prop:=q47_8 r fun x0 x50 => ∀ (x70:Nat),x70<=r.found.length->decide ((x70:Int) < (↑(r.found.length):Int))=false->C x0 x50 x70
theorem w47 (r:Run)
 (o0:q47_1 r (0=(↑0:Int)))
 (o1:q47_1 r (0 * r.plates.toNat=0))
 (o2:q47_1 r (0<=r.machines.length))
 (o3:q47_2 r fun x0=>0=(↑0:Int))
 (o4:q47_2 r fun x0=>x0 * r.plates.toNat=x0 * r.plates.toNat + 0)
 (o5:q47_2 r fun x0=>0<=r.plates.toNat)
 (o6:q47_4 r fun x0 x2=>0<=(x0:Int))
 (o7:q47_4 r fun x0 x2=>(x0:Int) < (↑(r.machines.length):Int))
 (o8:q47_4 r fun x0 x2=>0<=(x2:Int))
 (o9:q47_4 r fun x0 x2=>(x2:Int) < (↑((mach r x0).changes.length):Int))
 (o10:q47_3 r fun x0 x2=>(!decide (openE r (whenIs r (x0:Int) (x2:Int))=0))=false->(!!decide (openE r (whenIs r (x0:Int) (x2:Int))=0))=true)
 (o11:q47_3 r fun x0 x2=>(bif !decide (openE r (whenIs r (x0:Int) (x2:Int))=0) then true else !inside (whenS r (x0:Int) (x2:Int)) ((mach r x0).changes.getD x2 default))=false)
 (o12:q47_3 r fun x0 x2=>x0 * r.plates.toNat + x2 + 1<=65536)
 (o13:q47_3 r fun x0 x2=>inI ((x2:Int) + 1))
 (o14:q47_3 r fun x0 x2=>(x2:Int) + 1=(↑(x2 + 1):Int))
 (o15:q47_3 r fun x0 x2=>x0 * r.plates.toNat + x2 + 1=x0 * r.plates.toNat + (x2 + 1))
 (o16:q47_3 r fun x0 x2 => ∀ (i35:Nat),i35 < x0 * r.plates.toNat + x2 + 1->catF (x0 * r.plates.toNat + x2) (fun (k:Nat)=>cSpan (wAt r k)) (fun (j:Nat)=>List.getD [[iv (whenS r (x0:Int) (x2:Int)).lo,iv (whenS r (x0:Int) (x2:Int)).hi]] j (TI.za ti37)) i35=cSpan (wAt r i35))
 (o17:q47_3 r fun x0 x2=>x2 + 1<=r.plates.toNat)
 (o18:q47_3 r fun x0 x2=>r.plates.toNat - (x2 + 1) < r.plates.toNat - x2)
 (o19:q47_5 r fun x0 x2=>(!decide (openE r (isMachine r (x0:Int))=0))=false->(!!decide (openE r (isMachine r (x0:Int))=0))=true)
 (o20:q47_5 r fun x0 x2=>(bif !decide (openE r (isMachine r (x0:Int))=0) then true else !within (mixedS r (x0:Int)) 1 3)=false)
 (o21:q47_5 r fun x0 x2=>x0 + 1<=65536)
 (o22:q47_5 r fun x0 x2=>inI ((x0:Int) + 1))
 (o23:q47_5 r fun x0 x2=>(x0:Int) + 1=(↑(x0 + 1):Int))
 (o24:q47_5 r fun x0 x2=>x0 * r.plates.toNat + x2=(x0 + 1) * r.plates.toNat)
 (o25:q47_5 r fun x0 x2 => ∀ (i48:Nat),i48 < x0 + 1->catF x0 (fun (k:Nat)=>[iv (mixedS r (k:Int))]) (fun (j:Nat)=>List.getD [[iv (mixedS r (x0:Int))]] j (TI.za ti3)) i48 = [iv (mixedS r (i48:Int))])
 (o26:q47_5 r fun x0 x2=>x0 + 1<=r.machines.length)
 (o27:q47_5 r fun x0 x2=>r.machines.length - (x0 + 1) < r.machines.length - x0)
 (o28:q47_6 r fun x0=>0=(↑0:Int))
 (o29:q47_6 r fun x0=>x0 * r.plates.toNat=r.machines.length * r.plates.toNat)
 (o30:q47_6 r fun x0=>x0=r.machines.length)
 (o31:q47_6 r fun x0=>0<=r.plates.toNat)
 (o32:q47_7 r fun x0 x50=>(!decide (openE r (isPlate r (x50:Int))=0))=false->(!!decide (openE r (isPlate r (x50:Int))=0))=true)
 (o33:q47_7 r fun x0 x50=>(bif !decide (openE r (isPlate r (x50:Int))=0) then true else !inside (oldS r (x50:Int)) (Span.mk 0 810))=false)
 (o34:q47_7 r fun x0 x50=>x50 + 1<=65536)
 (o35:q47_7 r fun x0 x50=>inI ((x50:Int) + 1))
 (o36:q47_7 r fun x0 x50=>(x50:Int) + 1=(↑(x50 + 1):Int))
 (o37:q47_7 r fun x0 x50 => ∀ (i68:Nat),i68 < x50 + 1->catF x50 (fun (k:Nat)=>cSpan (oldS r (k:Int))) (fun (j:Nat)=>List.getD [[iv (oldS r (x50:Int)).lo,iv (oldS r (x50:Int)).hi]] j (TI.za ti37)) i68=cSpan (oldS r (i68:Int)))
 (o38:q47_7 r fun x0 x50=>x50 + 1<=r.plates.toNat)
 (o39:q47_7 r fun x0 x50=>r.plates.toNat - (x50 + 1) < r.plates.toNat - x50)
 (o40:q47_8 r fun x0 x50=>0=(↑0:Int))
 (o41:q47_8 r fun x0 x50=>x50=r.plates.toNat)
 (o42:q47_8 r fun x0 x50=>0<=r.found.length)
 (o43:q47_9 r fun x0 x50 x70=>(!decide (openE r (isFound r (x70:Int))=0))=false->(!!decide (openE r (isFound r (x70:Int))=0))=true)
 (o44:q47_9 r fun x0 x50 x70=>(!bif !decide (openE r (isFound r (x70:Int))=0) then true else decide ((↑((whereS r (x70:Int)).length):Int)=0))=true->inI ((↑(r.machines.length):Int) - 1))
 (o45:q47_9 r fun x0 x50 x70=>(!bif !decide (openE r (isFound r (x70:Int))=0) then true else decide ((↑((whereS r (x70:Int)).length):Int)=0))=true->(whereS r (x70:Int)).length<=1125899906842624)
 (o46:q47_9 r fun x0 x50 x70=>(bif !decide (openE r (isFound r (x70:Int))=0) then true else decide ((↑((whereS r (x70:Int)).length):Int)=0))=false->(!bif !decide (openE r (isFound r (x70:Int))=0) then true else decide ((↑((whereS r (x70:Int)).length):Int)=0))=true)
 (o47:q47_9 r fun x0 x50 x70=>(bif bif !decide (openE r (isFound r (x70:Int))=0) then true else decide ((↑((whereS r (x70:Int)).length):Int)=0) then true else !rising (whereS r (x70:Int)) 0 ((↑(r.machines.length):Int) - 1))=false)
 (o48:q47_9 r fun x0 x50 x70=>x70 + 1<=65536)
 (o49:q47_9 r fun x0 x50 x70=>inI ((x70:Int) + 1))
 (o50:q47_9 r fun x0 x50 x70=>(x70:Int) + 1=(↑(x70 + 1):Int))
 (o51:q47_9 r fun x0 x50 x70 => ∀ (i104:Nat),i104 < x70 + 1->catF x70 (fun (k:Nat)=>[aInts (whereS r (k:Int))]) (fun (j:Nat)=>List.getD [[AV.sl 1 (whereS r (x70:Int)).length fun (i:Nat)=>[iv ((whereS r (x70:Int)).getD i 0)]]] j (TI.za ti30)) i104 = [aInts (whereS r (i104:Int))])
 (o52:q47_9 r fun x0 x50 x70=>x70 + 1<=r.found.length)
 (o53:q47_9 r fun x0 x50 x70=>r.found.length - (x70 + 1) < r.found.length - x70)
 (o54:q47_10 r fun x0 x50 x70=>r.machines.length * r.plates.toNat=(Tld.when (toldOf r)).length)
 (o55:q47_10 r fun x0 x50 x70 => ∀ (i138:Nat),i138 < (Tld.when (toldOf r)).length->cSpan (wAt r i138) = [iv ((Tld.when (toldOf r)).getD i138 default).lo,iv ((Tld.when (toldOf r)).getD i138 default).hi])
 (o56:q47_10 r fun x0 x50 x70=>r.plates.toNat=(Tld.old (toldOf r)).length)
 (o57:q47_10 r fun x0 x50 x70 => ∀ (i140:Nat),i140 < (Tld.old (toldOf r)).length->cSpan (oldS r (i140:Int)) = [iv ((Tld.old (toldOf r)).getD i140 default).lo,iv ((Tld.old (toldOf r)).getD i140 default).hi])
 (o58:q47_10 r fun x0 x50 x70=>x70=(Tld.whr (toldOf r)).length)
 (o59:q47_10 r fun x0 x50 x70 => ∀ (i142:Nat),i142 < (Tld.whr (toldOf r)).length -> [aInts (whereS r (i142:Int))] = [aInts ((Tld.whr (toldOf r)).getD i142 [])])
 (o60:q47_10 r fun x0 x50 x70=>r.machines.length=(Tld.mixed (toldOf r)).length)
 (o61:q47_10 r fun x0 x50 x70 => ∀ (i144:Nat),i144 < (Tld.mixed (toldOf r)).length -> [iv (mixedS r (i144:Int))] = [iv ((Tld.mixed (toldOf r)).getD i144 0)])
 (o62:q47_10 r fun x0 x50 x70=>(mixesS r).lo=(Tld.mixes (toldOf r)).lo)
 (o63:q47_10 r fun x0 x50 x70=>(mixesS r).hi=(Tld.mixes (toldOf r)).hi)
 (o64:q47_10 r fun x0 x50 x70=>fewP r=Tld.fewest (toldOf r))
 (o65:q47_10 r fun x0 x50 x70=>(bif bif bif bif decide (openE r true=0) then decide (openE r true=0) else false then inside (mixesS r) (Span.mk 0 810) else false then decide (0<=fewP r) else false then decide (fewP r<=(↑(r.machines.length):Int)) else false)=true) :
  Triple Try.prog 47 (s47 r):=by
 refine triple_of Try.func47 rfl Try.call47 T0_ok _ rfl rfl rfl rfl (Nat.le_of_ble_eq_true (by kernel_rfl)) (fun _ _ _ _ h=>h) ?_
 intro hp C hC _ hE
 obtain ⟨P,w0,E0,av,hA⟩:=C
 subst hC
 refine swp_seq ?_
 refine sR (kt:=[1,2]) (kh:=[0,8]) (q:=True/\True/\True/\True) (st':=ASt.mk [(1,.ptr 0 []),(2,.ptr 8 [])] [(0,.cells 25 (cRun r)),(8,.cells 62 [nilv,nilv,nilv,nilv,iv 0,iv 0,iv 0])] 24) (by kernel_rfl) ⟨tv,tv,tv,tv⟩ ?_
 refine swp_seq ?_
 refine sR (kt:=[1,2,4]) (kh:=[0,8,24]) (q:=True/\True) (st':=ASt.mk [(1,.ptr 0 []),(2,.ptr 8 []),(4,.ptr 24 [])] [(0,.cells 25 (cRun r)),(8,.cells 62 [nilv,nilv,nilv,nilv,iv 0,iv 0,iv 0]),(24,.cells 62 [nilv,nilv,nilv,nilv,iv 0,iv 0,iv 0])] 32) (by kernel_rfl) ⟨tv,tv⟩ ?_
 refine swp_seq (swp_seq ?_)
 refine sR (kt:=[1,2,4,5]) (kh:=[0,8,24]) (q:=True/\True) (st':=ASt.mk [(1,.ptr 0 []),(2,.ptr 8 []),(4,.ptr 24 []),(5,iv 0)] [(0,.cells 25 (cRun r)),(8,.cells 62 [nilv,nilv,nilv,nilv,iv 0,iv 0,iv 0]),(24,.cells 62 [nilv,nilv,nilv,nilv,iv 0,iv 0,iv 0])] 40) (by kernel_rfl) ⟨tv,tv⟩ ?_
 refine swp_block ?_
 refine swp_loopA (Hint.ann (h47a r) [(1,AV.ptr 0 []),(2,AV.ptr 8 [])] [(0,OB.cells 25 (cRun r)),(8,OB.cells 62 [nilv,nilv,nilv,nilv,iv 0,iv 0,iv 0])] 10040) (ent_q hE [] [(0,.same 0),(8,.same 8),(5000,.same 24),(5001,.nil),(5002,.nil)] [] [0,8] (((some (Src.same 0)=some (Src.same 0)/\nilP = [])/\(some (Src.same 8)=some (Src.same 8)/\nilP = [])/\(iv 0=iv (↑0:Int)/\nilN = [])/\(some (Src.same 24)=some (Src.same 24)/\nilP = [])/\True)/\((OB.cells 25 (cRun r)=OB.cells 25 (cRun r)/\true=true)/\(OB.cells 62 [nilv,nilv,nilv,nilv,iv 0,iv 0,iv 0]=OB.cells 62 [nilv,nilv,nilv,nilv,iv 0,iv 0,iv 0]/\true=true)/\(62=62/\(some Src.nil=some Src.nil/\(nilv=nilv/\nilN = [])/\(nilv=nilv/\nilN = [])/\some Src.nil=some Src.nil/\(iv 0=iv 0/\nilN = [])/\(iv 0=iv 0/\nilN = [])/\(iv 0=iv 0/\nilN = [])/\True)/\true=true)/\0 * r.plates.toNat=0/\0=0/\True)/\T2) (by kernel_rfl) (by kernel_rfl) ⟨⟨⟨rfl,rfl⟩,⟨rfl,rfl⟩,⟨(congrArg iv (o0 hp)),rfl⟩,⟨rfl,rfl⟩,tv⟩,⟨⟨rfl,rfl⟩,⟨rfl,rfl⟩,⟨rfl,⟨rfl,⟨rfl,rfl⟩,⟨rfl,rfl⟩,rfl,⟨rfl,rfl⟩,⟨rfl,rfl⟩,⟨rfl,rfl⟩,tv⟩,rfl⟩,(o1 hp),rfl,tv⟩,rfl,rfl⟩) (o2 hp) (fun (x0:Nat) hx0 => ?_)
 refine swp_seq (swp_seq ?_)
 refine sR (kt:=[1,2,5,4,25]) (kh:=[0,8,5000,5001,5002]) (q:=True/\True/\True/\True/\True/\True) (st':=ASt.mk [(1,.ptr 0 []),(2,.ptr 8 []),(5,iv (x0:Int)),(4,.ptr 5000 []),(25,bv (decide ((x0:Int) < (↑(r.machines.length):Int))))] [(0,.cells 25 (cRun r)),(8,.cells 62 [nilv,nilv,nilv,nilv,iv 0,iv 0,iv 0]),(5000,.cells 62 [.vec 5001,nilv,nilv,.vec 5002,iv 0,iv 0,iv 0]),(5001,.vec 37 2 (x0 * r.plates.toNat) fun (k:Nat)=>cSpan (wAt r k)),(5002,.vec 3 1 x0 fun (k:Nat)=>[iv (mixedS r (k:Int))])] 10080) (by kernel_rfl) ⟨tv,tv,tv,tv,tv,tv⟩ ?_
 refine swp_cond (decide ((x0:Int) < (↑(r.machines.length):Int))) (by kernel_rfl) (fun h1 => ?_) (fun h1 => ?_)
 ·refine swp_skip (swp_seq (swp_block (swp_seq (swp_seq ?_))))
  refine sR (kt:=[1,2,5,4,6]) (kh:=[0,8,5000,5001,5002]) (q:=True/\True) (st':=ASt.mk [(1,.ptr 0 []),(2,.ptr 8 []),(5,iv (x0:Int)),(4,.ptr 5000 []),(6,iv 0)] [(0,.cells 25 (cRun r)),(8,.cells 62 [nilv,nilv,nilv,nilv,iv 0,iv 0,iv 0]),(5000,.cells 62 [.vec 5001,nilv,nilv,.vec 5002,iv 0,iv 0,iv 0]),(5001,.vec 37 2 (x0 * r.plates.toNat) fun (k:Nat)=>cSpan (wAt r k)),(5002,.vec 3 1 x0 fun (k:Nat)=>[iv (mixedS r (k:Int))])] 10088) (by kernel_rfl) ⟨tv,tv⟩ ?_
  refine swp_block ?_
  refine swp_loopA (Hint.ann (h47b r x0) [(1,AV.ptr 0 []),(2,AV.ptr 8 []),(5,iv (x0:Int))] [(0,OB.cells 25 (cRun r)),(8,OB.cells 62 [nilv,nilv,nilv,nilv,iv 0,iv 0,iv 0])] 20088) (ent_q hE [] [(0,.same 0),(8,.same 8),(5003,.same 5000),(5004,.same 5001),(5005,.same 5002)] [5] [0,8] (((some (Src.same 0)=some (Src.same 0)/\nilP = [])/\(some (Src.same 8)=some (Src.same 8)/\nilP = [])/\(iv (x0:Int)=iv (x0:Int)/\true=true)/\(iv 0=iv (↑0:Int)/\nilN = [])/\(some (Src.same 5000)=some (Src.same 5000)/\nilP = [])/\True)/\((OB.cells 25 (cRun r)=OB.cells 25 (cRun r)/\true=true)/\(OB.cells 62 [nilv,nilv,nilv,nilv,iv 0,iv 0,iv 0]=OB.cells 62 [nilv,nilv,nilv,nilv,iv 0,iv 0,iv 0]/\true=true)/\(62=62/\(some (Src.same 5001)=some (Src.same 5001)/\(nilv=nilv/\nilN = [])/\(nilv=nilv/\nilN = [])/\some (Src.same 5002)=some (Src.same 5002)/\(iv 0=iv 0/\nilN = [])/\(iv 0=iv 0/\nilN = [])/\(iv 0=iv 0/\nilN = [])/\True)/\true=true)/\(37=37/\2=2/\x0 * r.plates.toNat=x0 * r.plates.toNat + 0 /\ ∀ (i3:Nat),i3 < x0 * r.plates.toNat->cSpan (wAt r i3)=cSpan (wAt r i3))/\(3=3/\1=1/\x0=x0 /\ ∀ (i5:Nat),i5 < x0 -> [iv (mixedS r (i5:Int))] = [iv (mixedS r (i5:Int))])/\True)/\T2) (by kernel_rfl) (by kernel_rfl) ⟨⟨⟨rfl,rfl⟩,⟨rfl,rfl⟩,⟨rfl,rfl⟩,⟨(congrArg iv (o3 hp x0 hx0 h1)),rfl⟩,⟨rfl,rfl⟩,tv⟩,⟨⟨rfl,rfl⟩,⟨rfl,rfl⟩,⟨rfl,⟨rfl,⟨rfl,rfl⟩,⟨rfl,rfl⟩,rfl,⟨rfl,rfl⟩,⟨rfl,rfl⟩,⟨rfl,rfl⟩,tv⟩,rfl⟩,⟨rfl,rfl,(o4 hp x0 hx0 h1),(fun i3=>(fun h4=>rfl))⟩,⟨rfl,rfl,rfl,(fun i5=>(fun h6=>rfl))⟩,tv⟩,rfl,rfl⟩) (o5 hp x0 hx0 h1) (fun (x2:Nat) hx2 => ?_)
  refine swp_seq (swp_seq ?_)
  refine sR (kt:=[1,2,5,6,4,31]) (kh:=[0,8,5003,5004,5005]) (q:=True/\True/\True/\True/\True) (st':=ASt.mk [(1,.ptr 0 []),(2,.ptr 8 []),(5,iv (x0:Int)),(6,iv (x2:Int)),(4,.ptr 5003 []),(31,bv (decide ((x2:Int) < r.plates)))] [(0,.cells 25 (cRun r)),(8,.cells 62 [nilv,nilv,nilv,nilv,iv 0,iv 0,iv 0]),(5003,.cells 62 [.vec 5004,nilv,nilv,.vec 5005,iv 0,iv 0,iv 0]),(5004,.vec 37 2 (x0 * r.plates.toNat + x2) fun (k:Nat)=>cSpan (wAt r k)),(5005,.vec 3 1 x0 fun (k:Nat)=>[iv (mixedS r (k:Int))])] 20120) (by kernel_rfl) ⟨tv,tv,tv,tv,tv⟩ ?_
  refine swp_cond (decide ((x2:Int) < r.plates)) (by kernel_rfl) (fun h7 => ?_) (fun h7 => ?_)
  ·refine swp_skip (swp_seq (swp_block (swp_seq ?_)))
   refine swp_region T0_ok mixed (cs:=[(3,CallSpec.eq (s23 r (x0:Int) (x2:Int)) [true,true,true])]) (kt:=[1,2,5,6,4,7,8]) (kh:=[0,8,5003,20176,5004,5005]) (q:=True/\True/\True/\((AV.agg (cRun r)=AV.agg (cRun r)/\iv (x0:Int)=iv (x0:Int)/\iv (x2:Int)=iv (x2:Int)/\True)/\Triple Try.prog 23 (s23 r (x0:Int) (x2:Int))/\fits r/\True /\ ∀ (i8:Env),True)/\True/\True/\True/\True/\True/\True/\True) (st':=ASt.mk [(1,.ptr 0 []),(2,.ptr 8 []),(5,iv (x0:Int)),(6,iv (x2:Int)),(4,.ptr 5003 []),(7,.ptr 20176 []),(8,iv (openE r (whenIs r (x0:Int) (x2:Int))))] [(0,.cells 25 (cRun r)),(8,.cells 62 [nilv,nilv,nilv,nilv,iv 0,iv 0,iv 0]),(5003,.cells 62 [.vec 5004,nilv,nilv,.vec 5005,iv 0,iv 0,iv 0]),(20176,.cells 37 (cSpan (whenS r (x0:Int) (x2:Int)))),(5004,.vec 37 2 (x0 * r.plates.toNat + x2) fun (k:Nat)=>cSpan (wAt r k)),(5005,.vec 3 1 x0 fun (k:Nat)=>[iv (mixedS r (k:Int))])] 20200) (by kernel_rfl) ⟨tv,tv,tv,⟨⟨rfl,rfl,rfl,tv⟩,(t23 (r) ((x0:Int)) ((x2:Int))),hp.1,tv,(fun i8=>tv)⟩,tv,tv,tv,tv,tv,tv,tv⟩ ?_
   refine swp_seq (swp_seq ?_)
   refine swp_region T0_ok mixed (cs:=[(13,CallSpec.eq (s28 (whenS r (x0:Int) (x2:Int)) ((mach r x0).changes.getD x2 default)) [true,true])]) (kt:=[1,2,5,6,4,7,56]) (kh:=[0,8,5003,20176,5004,5005]) (q:=True/\True/\True/\((!!decide (openE r (whenIs r (x0:Int) (x2:Int))=0))->(True/\True)/\True)/\((!!decide (openE r (whenIs r (x0:Int) (x2:Int))=0))->(True/\True)/\True)/\((!!decide (openE r (whenIs r (x0:Int) (x2:Int))=0))->(((!!decide (openE r (whenIs r (x0:Int) (x2:Int))=0))->(!!decide (openE r (whenIs r (x0:Int) (x2:Int))=0))=true)/\True)/\True)/\((!!decide (openE r (whenIs r (x0:Int) (x2:Int))=0))->(True/\True)/\True)/\((!!decide (openE r (whenIs r (x0:Int) (x2:Int))=0))->(((!!decide (openE r (whenIs r (x0:Int) (x2:Int))=0))->(!!decide (openE r (whenIs r (x0:Int) (x2:Int))=0))=true)/\((!!decide (openE r (whenIs r (x0:Int) (x2:Int))=0))->(!!decide (openE r (whenIs r (x0:Int) (x2:Int))=0))=true)/\True)/\0<=(x0:Int)/\(x0:Int) < (↑(r.machines.length):Int))/\((!!decide (openE r (whenIs r (x0:Int) (x2:Int))=0))->(((!!decide (openE r (whenIs r (x0:Int) (x2:Int))=0))->(!!decide (openE r (whenIs r (x0:Int) (x2:Int))=0))=true)/\True)/\True)/\((!!decide (openE r (whenIs r (x0:Int) (x2:Int))=0))->(((!!decide (openE r (whenIs r (x0:Int) (x2:Int))=0))->(!!decide (openE r (whenIs r (x0:Int) (x2:Int))=0))=true)/\True)/\True)/\((!!decide (openE r (whenIs r (x0:Int) (x2:Int))=0))->(True/\True)/\True)/\((!!decide (openE r (whenIs r (x0:Int) (x2:Int))=0))->(((!!decide (openE r (whenIs r (x0:Int) (x2:Int))=0))->(!!decide (openE r (whenIs r (x0:Int) (x2:Int))=0))=true)/\((!!decide (openE r (whenIs r (x0:Int) (x2:Int))=0))->(!!decide (openE r (whenIs r (x0:Int) (x2:Int))=0))=true)/\True)/\0<=(x2:Int)/\(x2:Int) < (↑((mach r x0).changes.length):Int))/\((!!decide (openE r (whenIs r (x0:Int) (x2:Int))=0))->(((!!decide (openE r (whenIs r (x0:Int) (x2:Int))=0))->(!!decide (openE r (whenIs r (x0:Int) (x2:Int))=0))=true)/\True)/\True)/\((!!decide (openE r (whenIs r (x0:Int) (x2:Int))=0))->(True/\((!!decide (openE r (whenIs r (x0:Int) (x2:Int))=0))->(!!decide (openE r (whenIs r (x0:Int) (x2:Int))=0))=true)/\((!!decide (openE r (whenIs r (x0:Int) (x2:Int))=0))->(!!decide (openE r (whenIs r (x0:Int) (x2:Int))=0))=true)/\True)/\(AV.agg (cSpan (whenS r (x0:Int) (x2:Int)))=AV.agg (cSpan (whenS r (x0:Int) (x2:Int)))/\AV.agg (cSpan ((mach r x0).changes.getD x2 default))=AV.agg (cSpan ((mach r x0).changes.getD x2 default))/\True)/\Triple Try.prog 28 (s28 (whenS r (x0:Int) (x2:Int)) ((mach r x0).changes.getD x2 default))/\True/\True /\ ∀ (i30:Env),True)/\((!!decide (openE r (whenIs r (x0:Int) (x2:Int))=0))->(((!!decide (openE r (whenIs r (x0:Int) (x2:Int))=0))->(!!decide (openE r (whenIs r (x0:Int) (x2:Int))=0))=true)/\True)/\True)/\(((!decide (openE r (whenIs r (x0:Int) (x2:Int))=0))->True)/\((!decide (openE r (whenIs r (x0:Int) (x2:Int))=0))=false->(!!decide (openE r (whenIs r (x0:Int) (x2:Int))=0))=true))/\True) (st':=ASt.mk [(1,.ptr 0 []),(2,.ptr 8 []),(5,iv (x0:Int)),(6,iv (x2:Int)),(4,.ptr 5003 []),(7,.ptr 20176 []),(56,bv (bif !decide (openE r (whenIs r (x0:Int) (x2:Int))=0) then true else !inside (whenS r (x0:Int) (x2:Int)) ((mach r x0).changes.getD x2 default)))] [(0,.cells 25 (cRun r)),(8,.cells 62 [nilv,nilv,nilv,nilv,iv 0,iv 0,iv 0]),(5003,.cells 62 [.vec 5004,nilv,nilv,.vec 5005,iv 0,iv 0,iv 0]),(20176,.cells 37 (cSpan (whenS r (x0:Int) (x2:Int)))),(5004,.vec 37 2 (x0 * r.plates.toNat + x2) fun (k:Nat)=>cSpan (wAt r k)),(5005,.vec 3 1 x0 fun (k:Nat)=>[iv (mixedS r (k:Int))])] 20328) (by kernel_rfl) ⟨tv,tv,tv,(fun h9=>⟨⟨tv,tv⟩,tv⟩),(fun h10=>⟨⟨tv,tv⟩,tv⟩),(fun h11=>⟨⟨(fun h12=>h11),tv⟩,tv⟩),(fun h13=>⟨⟨tv,tv⟩,tv⟩),(fun h14=>⟨⟨(fun h15=>h14),(fun h16=>h14),tv⟩,(o6 hp x0 hx0 h1 x2 hx2 h7 h14),(o7 hp x0 hx0 h1 x2 hx2 h7 h14)⟩),(fun h17=>⟨⟨(fun h18=>h17),tv⟩,tv⟩),(fun h19=>⟨⟨(fun h20=>h19),tv⟩,tv⟩),(fun h21=>⟨⟨tv,tv⟩,tv⟩),(fun h22=>⟨⟨(fun h23=>h22),(fun h24=>h22),tv⟩,(o8 hp x0 hx0 h1 x2 hx2 h7 h22),(o9 hp x0 hx0 h1 x2 hx2 h7 h22)⟩),(fun h25=>⟨⟨(fun h26=>h25),tv⟩,tv⟩),(fun h27=>⟨⟨tv,(fun h28=>h27),(fun h29=>h27),tv⟩,⟨rfl,rfl,tv⟩,(t28 (whenS r (x0:Int) (x2:Int)) ((mach r x0).changes.getD x2 default)),tv,tv,(fun i30=>tv)⟩),(fun h31=>⟨⟨(fun h32=>h31),tv⟩,tv⟩),⟨(fun h33=>tv),(fun h34=>(o10 hp x0 hx0 h1 x2 hx2 h7 h34))⟩,tv⟩ ?_
   refine swp_cond (bif !decide (openE r (whenIs r (x0:Int) (x2:Int))=0) then true else !inside (whenS r (x0:Int) (x2:Int)) ((mach r x0).changes.getD x2 default)) (by kernel_rfl) (fun h=>by cases (h.symm.trans (o11 hp x0 hx0 h1 x2 hx2 h7))) (fun _ => ?_)
   refine swp_skip ?_
   refine sR (kt:=[1,2,5,6,4]) (kh:=[0,8,5003,20360,5005]) (q:=True/\True/\True/\True/\x0 * r.plates.toNat + x2 + 1<=65536/\True/\True/\True) (st':=ASt.mk [(1,.ptr 0 []),(2,.ptr 8 []),(5,iv (x0:Int)),(6,iv (x2:Int)),(4,.ptr 5003 [])] [(0,.cells 25 (cRun r)),(8,.cells 62 [nilv,nilv,nilv,nilv,iv 0,iv 0,iv 0]),(5003,.cells 62 [.vec 20360,nilv,nilv,.vec 5005,iv 0,iv 0,iv 0]),(20360,.vec 37 2 (x0 * r.plates.toNat + x2 + 1) (catF (x0 * r.plates.toNat + x2) (fun (k:Nat)=>cSpan (wAt r k)) fun (j:Nat)=>List.getD [[iv (whenS r (x0:Int) (x2:Int)).lo,iv (whenS r (x0:Int) (x2:Int)).hi]] j (TI.za ti37))),(5005,.vec 3 1 x0 fun (k:Nat)=>[iv (mixedS r (k:Int))])] 20384) (by kernel_rfl) ⟨tv,tv,tv,tv,(o12 hp x0 hx0 h1 x2 hx2 h7),tv,tv,tv⟩ ?_
   refine sR (kt:=[1,2,5,6,4]) (kh:=[0,8,5003,20360,5005]) (q:=True/\inI ((x2:Int) + 1)/\True/\True) (st':=ASt.mk [(1,.ptr 0 []),(2,.ptr 8 []),(5,iv (x0:Int)),(6,iv ((x2:Int) + 1)),(4,.ptr 5003 [])] [(0,.cells 25 (cRun r)),(8,.cells 62 [nilv,nilv,nilv,nilv,iv 0,iv 0,iv 0]),(5003,.cells 62 [.vec 20360,nilv,nilv,.vec 5005,iv 0,iv 0,iv 0]),(20360,.vec 37 2 (x0 * r.plates.toNat + x2 + 1) (catF (x0 * r.plates.toNat + x2) (fun (k:Nat)=>cSpan (wAt r k)) fun (j:Nat)=>List.getD [[iv (whenS r (x0:Int) (x2:Int)).lo,iv (whenS r (x0:Int) (x2:Int)).hi]] j (TI.za ti37))),(5005,.vec 3 1 x0 fun (k:Nat)=>[iv (mixedS r (k:Int))])] 20408) (by kernel_rfl) ⟨tv,(o13 hp x0 hx0 h1 x2 hx2 h7),tv,tv⟩ ?_
   exact loop_next (Hint.ann (h47b r x0) [(1,AV.ptr 0 []),(2,AV.ptr 8 []),(5,iv (x0:Int))] [(0,OB.cells 25 (cRun r)),(8,OB.cells 62 [nilv,nilv,nilv,nilv,iv 0,iv 0,iv 0])] 20088) x2 (ent_q hE [] [(0,.same 0),(8,.same 8),(5003,.same 5003),(5004,.same 20360),(5005,.same 5005)] [5] [0,8,5005] (((some (Src.same 0)=some (Src.same 0)/\nilP = [])/\(some (Src.same 8)=some (Src.same 8)/\nilP = [])/\(iv (x0:Int)=iv (x0:Int)/\true=true)/\(iv ((x2:Int) + 1)=iv (↑(x2 + 1):Int)/\nilN = [])/\(some (Src.same 5003)=some (Src.same 5003)/\nilP = [])/\True)/\((OB.cells 25 (cRun r)=OB.cells 25 (cRun r)/\true=true)/\(OB.cells 62 [nilv,nilv,nilv,nilv,iv 0,iv 0,iv 0]=OB.cells 62 [nilv,nilv,nilv,nilv,iv 0,iv 0,iv 0]/\true=true)/\(62=62/\(some (Src.same 20360)=some (Src.same 20360)/\(nilv=nilv/\nilN = [])/\(nilv=nilv/\nilN = [])/\some (Src.same 5005)=some (Src.same 5005)/\(iv 0=iv 0/\nilN = [])/\(iv 0=iv 0/\nilN = [])/\(iv 0=iv 0/\nilN = [])/\True)/\true=true)/\(37=37/\2=2/\x0 * r.plates.toNat + x2 + 1=x0 * r.plates.toNat + (x2 + 1) /\ ∀ (i35:Nat),i35 < x0 * r.plates.toNat + x2 + 1->catF (x0 * r.plates.toNat + x2) (fun (k:Nat)=>cSpan (wAt r k)) (fun (j:Nat)=>List.getD [[iv (whenS r (x0:Int) (x2:Int)).lo,iv (whenS r (x0:Int) (x2:Int)).hi]] j (TI.za ti37)) i35=cSpan (wAt r i35))/\(((OB.vec 3 1 x0 fun (k:Nat)=>[iv (mixedS r (k:Int))])=OB.vec 3 1 x0 fun (k:Nat)=>[iv (mixedS r (k:Int))])/\true=true)/\True)/\T2) (by kernel_rfl) (by kernel_rfl) ⟨⟨⟨rfl,rfl⟩,⟨rfl,rfl⟩,⟨rfl,rfl⟩,⟨(congrArg iv (o14 hp x0 hx0 h1 x2 hx2 h7)),rfl⟩,⟨rfl,rfl⟩,tv⟩,⟨⟨rfl,rfl⟩,⟨rfl,rfl⟩,⟨rfl,⟨rfl,⟨rfl,rfl⟩,⟨rfl,rfl⟩,rfl,⟨rfl,rfl⟩,⟨rfl,rfl⟩,⟨rfl,rfl⟩,tv⟩,rfl⟩,⟨rfl,rfl,(o15 hp x0 hx0 h1 x2 hx2 h7),(fun i35=>(fun h36=>(o16 hp x0 hx0 h1 x2 hx2 h7 i35 h36)))⟩,⟨rfl,rfl⟩,tv⟩,rfl,rfl⟩) (o17 hp x0 hx0 h1 x2 hx2 h7) (o18 hp x0 hx0 h1 x2 hx2 h7)
  ·refine swp_exit (swp_seq ?_)
   refine swp_region T0_ok mixed (cs:=[(2,CallSpec.eq (s65 r (x0:Int)) [true,true])]) (kt:=[1,2,5,4,9,10]) (kh:=[0,8,5003,5004,5005]) (q:=True/\True/\((AV.agg (cRun r)=AV.agg (cRun r)/\iv (x0:Int)=iv (x0:Int)/\True)/\Triple Try.prog 65 (s65 r (x0:Int))/\fits r/\True /\ ∀ (i37:Env),True)/\True/\True/\True/\True/\True/\True) (st':=ASt.mk [(1,.ptr 0 []),(2,.ptr 8 []),(5,iv (x0:Int)),(4,.ptr 5003 []),(9,iv (mixedS r (x0:Int))),(10,iv (openE r (isMachine r (x0:Int))))] [(0,.cells 25 (cRun r)),(8,.cells 62 [nilv,nilv,nilv,nilv,iv 0,iv 0,iv 0]),(5003,.cells 62 [.vec 5004,nilv,nilv,.vec 5005,iv 0,iv 0,iv 0]),(5004,.vec 37 2 (x0 * r.plates.toNat + x2) fun (k:Nat)=>cSpan (wAt r k)),(5005,.vec 3 1 x0 fun (k:Nat)=>[iv (mixedS r (k:Int))])] 20184) (by kernel_rfl) ⟨tv,tv,⟨⟨rfl,rfl,tv⟩,(t65 (r) ((x0:Int))),hp.1,tv,(fun i37=>tv)⟩,tv,tv,tv,tv,tv,tv⟩ ?_
   refine swp_seq (swp_seq ?_)
   refine swp_region T0_ok mixed (cs:=[(4,CallSpec.eq (s24 (mixedS r (x0:Int)) 1 3) [true,true,true])]) (kt:=[1,2,5,4,9,76]) (kh:=[0,8,5003,5004,5005]) (q:=True/\True/\True/\((!!decide (openE r (isMachine r (x0:Int))=0))->(True/\True)/\True)/\((!!decide (openE r (isMachine r (x0:Int))=0))->(True/\((!!decide (openE r (isMachine r (x0:Int))=0))->(!!decide (openE r (isMachine r (x0:Int))=0))=true)/\True/\True/\True)/\(iv (mixedS r (x0:Int))=iv (mixedS r (x0:Int))/\iv 1=iv 1/\iv 3=iv 3/\True)/\Triple Try.prog 24 (s24 (mixedS r (x0:Int)) 1 3)/\True/\True /\ ∀ (i41:Env),True)/\((!!decide (openE r (isMachine r (x0:Int))=0))->(((!!decide (openE r (isMachine r (x0:Int))=0))->(!!decide (openE r (isMachine r (x0:Int))=0))=true)/\True)/\True)/\(((!decide (openE r (isMachine r (x0:Int))=0))->True)/\((!decide (openE r (isMachine r (x0:Int))=0))=false->(!!decide (openE r (isMachine r (x0:Int))=0))=true))/\True) (st':=ASt.mk [(1,.ptr 0 []),(2,.ptr 8 []),(5,iv (x0:Int)),(4,.ptr 5003 []),(9,iv (mixedS r (x0:Int))),(76,bv (bif !decide (openE r (isMachine r (x0:Int))=0) then true else !within (mixedS r (x0:Int)) 1 3))] [(0,.cells 25 (cRun r)),(8,.cells 62 [nilv,nilv,nilv,nilv,iv 0,iv 0,iv 0]),(5003,.cells 62 [.vec 5004,nilv,nilv,.vec 5005,iv 0,iv 0,iv 0]),(5004,.vec 37 2 (x0 * r.plates.toNat + x2) fun (k:Nat)=>cSpan (wAt r k)),(5005,.vec 3 1 x0 fun (k:Nat)=>[iv (mixedS r (k:Int))])] 20240) (by kernel_rfl) ⟨tv,tv,tv,(fun h38=>⟨⟨tv,tv⟩,tv⟩),(fun h39=>⟨⟨tv,(fun h40=>h39),tv,tv,tv⟩,⟨rfl,rfl,rfl,tv⟩,(t24 (mixedS r (x0:Int)) (1) (3)),tv,tv,(fun i41=>tv)⟩),(fun h42=>⟨⟨(fun h43=>h42),tv⟩,tv⟩),⟨(fun h44=>tv),(fun h45=>(o19 hp x0 hx0 h1 x2 hx2 h7 h45))⟩,tv⟩ ?_
   refine swp_cond (bif !decide (openE r (isMachine r (x0:Int))=0) then true else !within (mixedS r (x0:Int)) 1 3) (by kernel_rfl) (fun h=>by cases (h.symm.trans (o20 hp x0 hx0 h1 x2 hx2 h7))) (fun _ => ?_)
   refine swp_skip ?_
   refine sR (kt:=[1,2,5,4]) (kh:=[0,8,5003,5004,20272]) (q:=True/\True/\True/\True/\x0 + 1<=65536/\True/\True/\True) (st':=ASt.mk [(1,.ptr 0 []),(2,.ptr 8 []),(5,iv (x0:Int)),(4,.ptr 5003 [])] [(0,.cells 25 (cRun r)),(8,.cells 62 [nilv,nilv,nilv,nilv,iv 0,iv 0,iv 0]),(5003,.cells 62 [.vec 5004,nilv,nilv,.vec 20272,iv 0,iv 0,iv 0]),(5004,.vec 37 2 (x0 * r.plates.toNat + x2) fun (k:Nat)=>cSpan (wAt r k)),(20272,.vec 3 1 (x0 + 1) (catF x0 (fun (k:Nat)=>[iv (mixedS r (k:Int))]) fun (j:Nat)=>List.getD [[iv (mixedS r (x0:Int))]] j (TI.za ti3)))] 20296) (by kernel_rfl) ⟨tv,tv,tv,tv,(o21 hp x0 hx0 h1 x2 hx2 h7),tv,tv,tv⟩ ?_
   refine sR (kt:=[1,2,5,4]) (kh:=[0,8,5003,5004,20272]) (q:=True/\inI ((x0:Int) + 1)/\True/\True) (st':=ASt.mk [(1,.ptr 0 []),(2,.ptr 8 []),(5,iv ((x0:Int) + 1)),(4,.ptr 5003 [])] [(0,.cells 25 (cRun r)),(8,.cells 62 [nilv,nilv,nilv,nilv,iv 0,iv 0,iv 0]),(5003,.cells 62 [.vec 5004,nilv,nilv,.vec 20272,iv 0,iv 0,iv 0]),(5004,.vec 37 2 (x0 * r.plates.toNat + x2) fun (k:Nat)=>cSpan (wAt r k)),(20272,.vec 3 1 (x0 + 1) (catF x0 (fun (k:Nat)=>[iv (mixedS r (k:Int))]) fun (j:Nat)=>List.getD [[iv (mixedS r (x0:Int))]] j (TI.za ti3)))] 20320) (by kernel_rfl) ⟨tv,(o22 hp x0 hx0 h1 x2 hx2 h7),tv,tv⟩ ?_
   exact loop_next (Hint.ann (h47a r) [(1,AV.ptr 0 []),(2,AV.ptr 8 [])] [(0,OB.cells 25 (cRun r)),(8,OB.cells 62 [nilv,nilv,nilv,nilv,iv 0,iv 0,iv 0])] 10040) x0 (ent_q hE [] [(0,.same 0),(8,.same 8),(5000,.same 5003),(5001,.same 5004),(5002,.same 20272)] [] [0,8] (((some (Src.same 0)=some (Src.same 0)/\nilP = [])/\(some (Src.same 8)=some (Src.same 8)/\nilP = [])/\(iv ((x0:Int) + 1)=iv (↑(x0 + 1):Int)/\nilN = [])/\(some (Src.same 5003)=some (Src.same 5003)/\nilP = [])/\True)/\((OB.cells 25 (cRun r)=OB.cells 25 (cRun r)/\true=true)/\(OB.cells 62 [nilv,nilv,nilv,nilv,iv 0,iv 0,iv 0]=OB.cells 62 [nilv,nilv,nilv,nilv,iv 0,iv 0,iv 0]/\true=true)/\(62=62/\(some (Src.same 5004)=some (Src.same 5004)/\(nilv=nilv/\nilN = [])/\(nilv=nilv/\nilN = [])/\some (Src.same 20272)=some (Src.same 20272)/\(iv 0=iv 0/\nilN = [])/\(iv 0=iv 0/\nilN = [])/\(iv 0=iv 0/\nilN = [])/\True)/\true=true)/\(37=37/\2=2/\x0 * r.plates.toNat + x2=(x0 + 1) * r.plates.toNat /\ ∀ (i46:Nat),i46 < x0 * r.plates.toNat + x2->cSpan (wAt r i46)=cSpan (wAt r i46))/\(3=3/\1=1/\x0 + 1=x0 + 1 /\ ∀ (i48:Nat),i48 < x0 + 1->catF x0 (fun (k:Nat)=>[iv (mixedS r (k:Int))]) (fun (j:Nat)=>List.getD [[iv (mixedS r (x0:Int))]] j (TI.za ti3)) i48 = [iv (mixedS r (i48:Int))])/\True)/\T2) (by kernel_rfl) (by kernel_rfl) ⟨⟨⟨rfl,rfl⟩,⟨rfl,rfl⟩,⟨(congrArg iv (o23 hp x0 hx0 h1 x2 hx2 h7)),rfl⟩,⟨rfl,rfl⟩,tv⟩,⟨⟨rfl,rfl⟩,⟨rfl,rfl⟩,⟨rfl,⟨rfl,⟨rfl,rfl⟩,⟨rfl,rfl⟩,rfl,⟨rfl,rfl⟩,⟨rfl,rfl⟩,⟨rfl,rfl⟩,tv⟩,rfl⟩,⟨rfl,rfl,(o24 hp x0 hx0 h1 x2 hx2 h7),(fun i46=>(fun h47=>rfl))⟩,⟨rfl,rfl,rfl,(fun i48=>(fun h49=>(o25 hp x0 hx0 h1 x2 hx2 h7 i48 h49)))⟩,tv⟩,rfl,rfl⟩) (o26 hp x0 hx0 h1 x2 hx2 h7) (o27 hp x0 hx0 h1 x2 hx2 h7)
 ·refine swp_exit (swp_seq (swp_seq ?_))
  refine sR (kt:=[1,2,4,11]) (kh:=[0,8,5000,5001,5002]) (q:=True/\True) (st':=ASt.mk [(1,.ptr 0 []),(2,.ptr 8 []),(4,.ptr 5000 []),(11,iv 0)] [(0,.cells 25 (cRun r)),(8,.cells 62 [nilv,nilv,nilv,nilv,iv 0,iv 0,iv 0]),(5000,.cells 62 [.vec 5001,nilv,nilv,.vec 5002,iv 0,iv 0,iv 0]),(5001,.vec 37 2 (x0 * r.plates.toNat) fun (k:Nat)=>cSpan (wAt r k)),(5002,.vec 3 1 x0 fun (k:Nat)=>[iv (mixedS r (k:Int))])] 10088) (by kernel_rfl) ⟨tv,tv⟩ ?_
  refine swp_block ?_
  refine swp_loopA (Hint.ann (h47c r) [(1,AV.ptr 0 []),(2,AV.ptr 8 [])] [(0,OB.cells 25 (cRun r)),(8,OB.cells 62 [nilv,nilv,nilv,nilv,iv 0,iv 0,iv 0])] 20088) (ent_q hE [] [(0,.same 0),(8,.same 8),(5006,.same 5000),(5007,.same 5001),(5008,.nil),(5009,.same 5002)] [] [0,8] (((some (Src.same 0)=some (Src.same 0)/\nilP = [])/\(some (Src.same 8)=some (Src.same 8)/\nilP = [])/\(iv 0=iv (↑0:Int)/\nilN = [])/\(some (Src.same 5000)=some (Src.same 5000)/\nilP = [])/\True)/\((OB.cells 25 (cRun r)=OB.cells 25 (cRun r)/\true=true)/\(OB.cells 62 [nilv,nilv,nilv,nilv,iv 0,iv 0,iv 0]=OB.cells 62 [nilv,nilv,nilv,nilv,iv 0,iv 0,iv 0]/\true=true)/\(62=62/\(some (Src.same 5001)=some (Src.same 5001)/\some Src.nil=some Src.nil/\(nilv=nilv/\nilN = [])/\some (Src.same 5002)=some (Src.same 5002)/\(iv 0=iv 0/\nilN = [])/\(iv 0=iv 0/\nilN = [])/\(iv 0=iv 0/\nilN = [])/\True)/\true=true)/\(37=37/\2=2/\x0 * r.plates.toNat=r.machines.length * r.plates.toNat /\ ∀ (i51:Nat),i51 < x0 * r.plates.toNat->cSpan (wAt r i51)=cSpan (wAt r i51))/\0=0/\(3=3/\1=1/\x0=r.machines.length /\ ∀ (i53:Nat),i53 < x0 -> [iv (mixedS r (i53:Int))] = [iv (mixedS r (i53:Int))])/\True)/\T2) (by kernel_rfl) (by kernel_rfl) ⟨⟨⟨rfl,rfl⟩,⟨rfl,rfl⟩,⟨(congrArg iv (o28 hp x0 hx0 h1)),rfl⟩,⟨rfl,rfl⟩,tv⟩,⟨⟨rfl,rfl⟩,⟨rfl,rfl⟩,⟨rfl,⟨rfl,rfl,⟨rfl,rfl⟩,rfl,⟨rfl,rfl⟩,⟨rfl,rfl⟩,⟨rfl,rfl⟩,tv⟩,rfl⟩,⟨rfl,rfl,(o29 hp x0 hx0 h1),(fun i51=>(fun h52=>rfl))⟩,rfl,⟨rfl,rfl,(o30 hp x0 hx0 h1),(fun i53=>(fun h54=>rfl))⟩,tv⟩,rfl,rfl⟩) (o31 hp x0 hx0 h1) (fun (x50:Nat) hx50 => ?_)
  refine swp_seq (swp_seq ?_)
  refine sR (kt:=[1,2,11,4,87]) (kh:=[0,8,5006,5007,5008,5009]) (q:=True/\True/\True/\True/\True) (st':=ASt.mk [(1,.ptr 0 []),(2,.ptr 8 []),(11,iv (x50:Int)),(4,.ptr 5006 []),(87,bv (decide ((x50:Int) < r.plates)))] [(0,.cells 25 (cRun r)),(8,.cells 62 [nilv,nilv,nilv,nilv,iv 0,iv 0,iv 0]),(5006,.cells 62 [.vec 5007,.vec 5008,nilv,.vec 5009,iv 0,iv 0,iv 0]),(5007,.vec 37 2 (r.machines.length * r.plates.toNat) fun (k:Nat)=>cSpan (wAt r k)),(5008,.vec 37 2 x50 fun (k:Nat)=>cSpan (oldS r (k:Int))),(5009,.vec 3 1 r.machines.length fun (k:Nat)=>[iv (mixedS r (k:Int))])] 20120) (by kernel_rfl) ⟨tv,tv,tv,tv,tv⟩ ?_
  refine swp_cond (decide ((x50:Int) < r.plates)) (by kernel_rfl) (fun h55 => ?_) (fun h55 => ?_)
  ·refine swp_skip (swp_seq (swp_block (swp_seq ?_)))
   refine swp_region T0_ok mixed (cs:=[(2,CallSpec.eq (s26 r (x50:Int)) [true,true])]) (kt:=[1,2,11,4,12,13]) (kh:=[0,8,5006,20168,5007,5008,5009]) (q:=True/\True/\((AV.agg (cRun r)=AV.agg (cRun r)/\iv (x50:Int)=iv (x50:Int)/\True)/\Triple Try.prog 26 (s26 r (x50:Int))/\fits r/\True /\ ∀ (i56:Env),True)/\True/\True/\True/\True/\True/\True/\True) (st':=ASt.mk [(1,.ptr 0 []),(2,.ptr 8 []),(11,iv (x50:Int)),(4,.ptr 5006 []),(12,.ptr 20168 []),(13,iv (openE r (isPlate r (x50:Int))))] [(0,.cells 25 (cRun r)),(8,.cells 62 [nilv,nilv,nilv,nilv,iv 0,iv 0,iv 0]),(5006,.cells 62 [.vec 5007,.vec 5008,nilv,.vec 5009,iv 0,iv 0,iv 0]),(20168,.cells 37 (cSpan (oldS r (x50:Int)))),(5007,.vec 37 2 (r.machines.length * r.plates.toNat) fun (k:Nat)=>cSpan (wAt r k)),(5008,.vec 37 2 x50 fun (k:Nat)=>cSpan (oldS r (k:Int))),(5009,.vec 3 1 r.machines.length fun (k:Nat)=>[iv (mixedS r (k:Int))])] 20192) (by kernel_rfl) ⟨tv,tv,⟨⟨rfl,rfl,tv⟩,(t26 (r) ((x50:Int))),hp.1,tv,(fun i56=>tv)⟩,tv,tv,tv,tv,tv,tv,tv⟩ ?_
   refine swp_seq (swp_seq ?_)
   refine swp_region T0_ok mixed (cs:=[(4,CallSpec.eq (s29 0 810) [true,true]),(5,CallSpec.eq (s28 (oldS r (x50:Int)) (Span.mk 0 810)) [true,true])]) (kt:=[1,2,11,4,12,103]) (kh:=[0,8,5006,20168,5007,5008,5009]) (q:=True/\True/\True/\((!!decide (openE r (isPlate r (x50:Int))=0))->(True/\True)/\True)/\((!!decide (openE r (isPlate r (x50:Int))=0))->(True/\True/\True/\True)/\(iv 0=iv 0/\iv 810=iv 810/\True)/\Triple Try.prog 29 (s29 0 810)/\True/\True /\ ∀ (i59:Env),True)/\((!!decide (openE r (isPlate r (x50:Int))=0))->(True/\((!!decide (openE r (isPlate r (x50:Int))=0))->(!!decide (openE r (isPlate r (x50:Int))=0))=true)/\((!!decide (openE r (isPlate r (x50:Int))=0))->(!!decide (openE r (isPlate r (x50:Int))=0))=true)/\True)/\(AV.agg (cSpan (oldS r (x50:Int)))=AV.agg (cSpan (oldS r (x50:Int)))/\AV.agg (cSpan (Span.mk 0 810))=AV.agg (cSpan (Span.mk 0 810))/\True)/\Triple Try.prog 28 (s28 (oldS r (x50:Int)) (Span.mk 0 810))/\True/\True /\ ∀ (i63:Env),True)/\((!!decide (openE r (isPlate r (x50:Int))=0))->(((!!decide (openE r (isPlate r (x50:Int))=0))->(!!decide (openE r (isPlate r (x50:Int))=0))=true)/\True)/\True)/\(((!decide (openE r (isPlate r (x50:Int))=0))->True)/\((!decide (openE r (isPlate r (x50:Int))=0))=false->(!!decide (openE r (isPlate r (x50:Int))=0))=true))/\True) (st':=ASt.mk [(1,.ptr 0 []),(2,.ptr 8 []),(11,iv (x50:Int)),(4,.ptr 5006 []),(12,.ptr 20168 []),(103,bv (bif !decide (openE r (isPlate r (x50:Int))=0) then true else !inside (oldS r (x50:Int)) (Span.mk 0 810)))] [(0,.cells 25 (cRun r)),(8,.cells 62 [nilv,nilv,nilv,nilv,iv 0,iv 0,iv 0]),(5006,.cells 62 [.vec 5007,.vec 5008,nilv,.vec 5009,iv 0,iv 0,iv 0]),(20168,.cells 37 (cSpan (oldS r (x50:Int)))),(5007,.vec 37 2 (r.machines.length * r.plates.toNat) fun (k:Nat)=>cSpan (wAt r k)),(5008,.vec 37 2 x50 fun (k:Nat)=>cSpan (oldS r (k:Int))),(5009,.vec 3 1 r.machines.length fun (k:Nat)=>[iv (mixedS r (k:Int))])] 20256) (by kernel_rfl) ⟨tv,tv,tv,(fun h57=>⟨⟨tv,tv⟩,tv⟩),(fun h58=>⟨⟨tv,tv,tv,tv⟩,⟨rfl,rfl,tv⟩,(t29 (0) (810)),tv,tv,(fun i59=>tv)⟩),(fun h60=>⟨⟨tv,(fun h61=>h60),(fun h62=>h60),tv⟩,⟨rfl,rfl,tv⟩,(t28 (oldS r (x50:Int)) (Span.mk 0 810)),tv,tv,(fun i63=>tv)⟩),(fun h64=>⟨⟨(fun h65=>h64),tv⟩,tv⟩),⟨(fun h66=>tv),(fun h67=>(o32 hp x0 hx0 h1 x50 hx50 h55 h67))⟩,tv⟩ ?_
   refine swp_cond (bif !decide (openE r (isPlate r (x50:Int))=0) then true else !inside (oldS r (x50:Int)) (Span.mk 0 810)) (by kernel_rfl) (fun h=>by cases (h.symm.trans (o33 hp x0 hx0 h1 x50 hx50 h55))) (fun _ => ?_)
   refine swp_skip ?_
   refine sR (kt:=[1,2,11,4]) (kh:=[0,8,5006,5007,20288,5009]) (q:=True/\True/\True/\True/\x50 + 1<=65536/\True/\True/\True) (st':=ASt.mk [(1,.ptr 0 []),(2,.ptr 8 []),(11,iv (x50:Int)),(4,.ptr 5006 [])] [(0,.cells 25 (cRun r)),(8,.cells 62 [nilv,nilv,nilv,nilv,iv 0,iv 0,iv 0]),(5006,.cells 62 [.vec 5007,.vec 20288,nilv,.vec 5009,iv 0,iv 0,iv 0]),(5007,.vec 37 2 (r.machines.length * r.plates.toNat) fun (k:Nat)=>cSpan (wAt r k)),(20288,.vec 37 2 (x50 + 1) (catF x50 (fun (k:Nat)=>cSpan (oldS r (k:Int))) fun (j:Nat)=>List.getD [[iv (oldS r (x50:Int)).lo,iv (oldS r (x50:Int)).hi]] j (TI.za ti37))),(5009,.vec 3 1 r.machines.length fun (k:Nat)=>[iv (mixedS r (k:Int))])] 20312) (by kernel_rfl) ⟨tv,tv,tv,tv,(o34 hp x0 hx0 h1 x50 hx50 h55),tv,tv,tv⟩ ?_
   refine sR (kt:=[1,2,11,4]) (kh:=[0,8,5006,5007,20288,5009]) (q:=True/\inI ((x50:Int) + 1)/\True/\True) (st':=ASt.mk [(1,.ptr 0 []),(2,.ptr 8 []),(11,iv ((x50:Int) + 1)),(4,.ptr 5006 [])] [(0,.cells 25 (cRun r)),(8,.cells 62 [nilv,nilv,nilv,nilv,iv 0,iv 0,iv 0]),(5006,.cells 62 [.vec 5007,.vec 20288,nilv,.vec 5009,iv 0,iv 0,iv 0]),(5007,.vec 37 2 (r.machines.length * r.plates.toNat) fun (k:Nat)=>cSpan (wAt r k)),(20288,.vec 37 2 (x50 + 1) (catF x50 (fun (k:Nat)=>cSpan (oldS r (k:Int))) fun (j:Nat)=>List.getD [[iv (oldS r (x50:Int)).lo,iv (oldS r (x50:Int)).hi]] j (TI.za ti37))),(5009,.vec 3 1 r.machines.length fun (k:Nat)=>[iv (mixedS r (k:Int))])] 20336) (by kernel_rfl) ⟨tv,(o35 hp x0 hx0 h1 x50 hx50 h55),tv,tv⟩ ?_
   exact loop_next (Hint.ann (h47c r) [(1,AV.ptr 0 []),(2,AV.ptr 8 [])] [(0,OB.cells 25 (cRun r)),(8,OB.cells 62 [nilv,nilv,nilv,nilv,iv 0,iv 0,iv 0])] 20088) x50 (ent_q hE [] [(0,.same 0),(8,.same 8),(5006,.same 5006),(5007,.same 5007),(5008,.same 20288),(5009,.same 5009)] [] [0,8,5007,5009] (((some (Src.same 0)=some (Src.same 0)/\nilP = [])/\(some (Src.same 8)=some (Src.same 8)/\nilP = [])/\(iv ((x50:Int) + 1)=iv (↑(x50 + 1):Int)/\nilN = [])/\(some (Src.same 5006)=some (Src.same 5006)/\nilP = [])/\True)/\((OB.cells 25 (cRun r)=OB.cells 25 (cRun r)/\true=true)/\(OB.cells 62 [nilv,nilv,nilv,nilv,iv 0,iv 0,iv 0]=OB.cells 62 [nilv,nilv,nilv,nilv,iv 0,iv 0,iv 0]/\true=true)/\(62=62/\(some (Src.same 5007)=some (Src.same 5007)/\some (Src.same 20288)=some (Src.same 20288)/\(nilv=nilv/\nilN = [])/\some (Src.same 5009)=some (Src.same 5009)/\(iv 0=iv 0/\nilN = [])/\(iv 0=iv 0/\nilN = [])/\(iv 0=iv 0/\nilN = [])/\True)/\true=true)/\(((OB.vec 37 2 (r.machines.length * r.plates.toNat) fun (k:Nat)=>cSpan (wAt r k))=OB.vec 37 2 (r.machines.length * r.plates.toNat) fun (k:Nat)=>cSpan (wAt r k))/\true=true)/\(37=37/\2=2/\x50 + 1=x50 + 1 /\ ∀ (i68:Nat),i68 < x50 + 1->catF x50 (fun (k:Nat)=>cSpan (oldS r (k:Int))) (fun (j:Nat)=>List.getD [[iv (oldS r (x50:Int)).lo,iv (oldS r (x50:Int)).hi]] j (TI.za ti37)) i68=cSpan (oldS r (i68:Int)))/\(((OB.vec 3 1 r.machines.length fun (k:Nat)=>[iv (mixedS r (k:Int))])=OB.vec 3 1 r.machines.length fun (k:Nat)=>[iv (mixedS r (k:Int))])/\true=true)/\True)/\T2) (by kernel_rfl) (by kernel_rfl) ⟨⟨⟨rfl,rfl⟩,⟨rfl,rfl⟩,⟨(congrArg iv (o36 hp x0 hx0 h1 x50 hx50 h55)),rfl⟩,⟨rfl,rfl⟩,tv⟩,⟨⟨rfl,rfl⟩,⟨rfl,rfl⟩,⟨rfl,⟨rfl,rfl,⟨rfl,rfl⟩,rfl,⟨rfl,rfl⟩,⟨rfl,rfl⟩,⟨rfl,rfl⟩,tv⟩,rfl⟩,⟨rfl,rfl⟩,⟨rfl,rfl,rfl,(fun i68=>(fun h69=>(o37 hp x0 hx0 h1 x50 hx50 h55 i68 h69)))⟩,⟨rfl,rfl⟩,tv⟩,rfl,rfl⟩) (o38 hp x0 hx0 h1 x50 hx50 h55) (o39 hp x0 hx0 h1 x50 hx50 h55)
  ·refine swp_exit (swp_seq (swp_seq ?_))
   refine sR (kt:=[1,2,4,14]) (kh:=[0,8,5006,5007,5008,5009]) (q:=True/\True) (st':=ASt.mk [(1,.ptr 0 []),(2,.ptr 8 []),(4,.ptr 5006 []),(14,iv 0)] [(0,.cells 25 (cRun r)),(8,.cells 62 [nilv,nilv,nilv,nilv,iv 0,iv 0,iv 0]),(5006,.cells 62 [.vec 5007,.vec 5008,nilv,.vec 5009,iv 0,iv 0,iv 0]),(5007,.vec 37 2 (r.machines.length * r.plates.toNat) fun (k:Nat)=>cSpan (wAt r k)),(5008,.vec 37 2 x50 fun (k:Nat)=>cSpan (oldS r (k:Int))),(5009,.vec 3 1 r.machines.length fun (k:Nat)=>[iv (mixedS r (k:Int))])] 20128) (by kernel_rfl) ⟨tv,tv⟩ ?_
   refine swp_block ?_
   refine swp_loopA (Hint.ann (h47d r) [(1,AV.ptr 0 []),(2,AV.ptr 8 [])] [(0,OB.cells 25 (cRun r)),(8,OB.cells 62 [nilv,nilv,nilv,nilv,iv 0,iv 0,iv 0])] 30128) (ent_q hE [] [(0,.same 0),(8,.same 8),(5010,.same 5006),(5011,.same 5007),(5012,.same 5008),(5013,.nil),(5014,.same 5009)] [] [0,8] (((some (Src.same 0)=some (Src.same 0)/\nilP = [])/\(some (Src.same 8)=some (Src.same 8)/\nilP = [])/\(iv 0=iv (↑0:Int)/\nilN = [])/\(some (Src.same 5006)=some (Src.same 5006)/\nilP = [])/\True)/\((OB.cells 25 (cRun r)=OB.cells 25 (cRun r)/\true=true)/\(OB.cells 62 [nilv,nilv,nilv,nilv,iv 0,iv 0,iv 0]=OB.cells 62 [nilv,nilv,nilv,nilv,iv 0,iv 0,iv 0]/\true=true)/\(62=62/\(some (Src.same 5007)=some (Src.same 5007)/\some (Src.same 5008)=some (Src.same 5008)/\some Src.nil=some Src.nil/\some (Src.same 5009)=some (Src.same 5009)/\(iv 0=iv 0/\nilN = [])/\(iv 0=iv 0/\nilN = [])/\(iv 0=iv 0/\nilN = [])/\True)/\true=true)/\(37=37/\2=2/\r.machines.length * r.plates.toNat=r.machines.length * r.plates.toNat /\ ∀ (i71:Nat),i71 < r.machines.length * r.plates.toNat->cSpan (wAt r i71)=cSpan (wAt r i71))/\(37=37/\2=2/\x50=r.plates.toNat /\ ∀ (i73:Nat),i73 < x50->cSpan (oldS r (i73:Int))=cSpan (oldS r (i73:Int)))/\0=0/\(3=3/\1=1/\r.machines.length=r.machines.length /\ ∀ (i75:Nat),i75 < r.machines.length -> [iv (mixedS r (i75:Int))] = [iv (mixedS r (i75:Int))])/\True)/\T2) (by kernel_rfl) (by kernel_rfl) ⟨⟨⟨rfl,rfl⟩,⟨rfl,rfl⟩,⟨(congrArg iv (o40 hp x0 hx0 h1 x50 hx50 h55)),rfl⟩,⟨rfl,rfl⟩,tv⟩,⟨⟨rfl,rfl⟩,⟨rfl,rfl⟩,⟨rfl,⟨rfl,rfl,rfl,rfl,⟨rfl,rfl⟩,⟨rfl,rfl⟩,⟨rfl,rfl⟩,tv⟩,rfl⟩,⟨rfl,rfl,rfl,(fun i71=>(fun h72=>rfl))⟩,⟨rfl,rfl,(o41 hp x0 hx0 h1 x50 hx50 h55),(fun i73=>(fun h74=>rfl))⟩,rfl,⟨rfl,rfl,rfl,(fun i75=>(fun h76=>rfl))⟩,tv⟩,rfl,rfl⟩) (o42 hp x0 hx0 h1 x50 hx50 h55) (fun (x70:Nat) hx70 => ?_)
   refine swp_seq (swp_seq ?_)
   refine sR (kt:=[1,2,14,4,115]) (kh:=[0,8,5010,5011,5012,5013,5014]) (q:=True/\True/\True/\True/\True/\True) (st':=ASt.mk [(1,.ptr 0 []),(2,.ptr 8 []),(14,iv (x70:Int)),(4,.ptr 5010 []),(115,bv (decide ((x70:Int) < (↑(r.found.length):Int))))] [(0,.cells 25 (cRun r)),(8,.cells 62 [nilv,nilv,nilv,nilv,iv 0,iv 0,iv 0]),(5010,.cells 62 [.vec 5011,.vec 5012,.vec 5013,.vec 5014,iv 0,iv 0,iv 0]),(5011,.vec 37 2 (r.machines.length * r.plates.toNat) fun (k:Nat)=>cSpan (wAt r k)),(5012,.vec 37 2 r.plates.toNat fun (k:Nat)=>cSpan (oldS r (k:Int))),(5013,.vec 30 1 x70 fun (k:Nat)=>[aInts (whereS r (k:Int))]),(5014,.vec 3 1 r.machines.length fun (k:Nat)=>[iv (mixedS r (k:Int))])] 30168) (by kernel_rfl) ⟨tv,tv,tv,tv,tv,tv⟩ ?_
   refine swp_cond (decide ((x70:Int) < (↑(r.found.length):Int))) (by kernel_rfl) (fun h77 => ?_) (fun h77 => ?_)
   ·refine swp_skip (swp_seq (swp_block (swp_seq ?_)))
    refine swp_region T0_ok mixed (cs:=[(2,CallSpec.eq (s35 r (x70:Int)) [true,true])]) (kt:=[1,2,14,4,15,16]) (kh:=[0,8,5010,5011,5012,5013,5014]) (q:=True/\True/\((AV.agg (cRun r)=AV.agg (cRun r)/\iv (x70:Int)=iv (x70:Int)/\True)/\Triple Try.prog 35 (s35 r (x70:Int))/\fits r/\True /\ ∀ (i78:Env),True)/\True/\True/\True/\True/\True/\True) (st':=ASt.mk [(1,.ptr 0 []),(2,.ptr 8 []),(14,iv (x70:Int)),(4,.ptr 5010 []),(15,aInts (whereS r (x70:Int))),(16,iv (openE r (isFound r (x70:Int))))] [(0,.cells 25 (cRun r)),(8,.cells 62 [nilv,nilv,nilv,nilv,iv 0,iv 0,iv 0]),(5010,.cells 62 [.vec 5011,.vec 5012,.vec 5013,.vec 5014,iv 0,iv 0,iv 0]),(5011,.vec 37 2 (r.machines.length * r.plates.toNat) fun (k:Nat)=>cSpan (wAt r k)),(5012,.vec 37 2 r.plates.toNat fun (k:Nat)=>cSpan (oldS r (k:Int))),(5013,.vec 30 1 x70 fun (k:Nat)=>[aInts (whereS r (k:Int))]),(5014,.vec 3 1 r.machines.length fun (k:Nat)=>[iv (mixedS r (k:Int))])] 30232) (by kernel_rfl) ⟨tv,tv,⟨⟨rfl,rfl,tv⟩,(t35 (r) ((x70:Int))),hp.1,tv,(fun i78=>tv)⟩,tv,tv,tv,tv,tv,tv⟩ ?_
    refine swp_seq (swp_seq ?_)
    refine swp_region T0_ok mixed (cs:=[(13,CallSpec.eq (s52 (whereS r (x70:Int)) 0 ((↑(r.machines.length):Int) - 1)) [false,true,true])]) (kt:=[1,2,14,4,15,139]) (kh:=[0,8,5010,5011,5012,5013,5014]) (q:=True/\True/\True/\((!!decide (openE r (isFound r (x70:Int))=0))->(True/\True)/\True)/\((!!decide (openE r (isFound r (x70:Int))=0))->(((!!decide (openE r (isFound r (x70:Int))=0))->(!!decide (openE r (isFound r (x70:Int))=0))=true)/\True)/\True)/\((!!decide (openE r (isFound r (x70:Int))=0))->(((!!decide (openE r (isFound r (x70:Int))=0))->(!!decide (openE r (isFound r (x70:Int))=0))=true)/\True/\True)/\True)/\(((!decide (openE r (isFound r (x70:Int))=0))->True)/\((!decide (openE r (isFound r (x70:Int))=0))=false->(!!decide (openE r (isFound r (x70:Int))=0))=true))/\True/\((!bif !decide (openE r (isFound r (x70:Int))=0) then true else decide ((↑((whereS r (x70:Int)).length):Int)=0))=true->(True/\True)/\True)/\((!bif !decide (openE r (isFound r (x70:Int))=0) then true else decide ((↑((whereS r (x70:Int)).length):Int)=0))=true->(True/\True)/\True)/\((!bif !decide (openE r (isFound r (x70:Int))=0) then true else decide ((↑((whereS r (x70:Int)).length):Int)=0))=true->(((!bif !decide (openE r (isFound r (x70:Int))=0) then true else decide ((↑((whereS r (x70:Int)).length):Int)=0))=true->(!bif !decide (openE r (isFound r (x70:Int))=0) then true else decide ((↑((whereS r (x70:Int)).length):Int)=0))=true)/\True)/\True)/\((!bif !decide (openE r (isFound r (x70:Int))=0) then true else decide ((↑((whereS r (x70:Int)).length):Int)=0))=true->(((!bif !decide (openE r (isFound r (x70:Int))=0) then true else decide ((↑((whereS r (x70:Int)).length):Int)=0))=true->(!bif !decide (openE r (isFound r (x70:Int))=0) then true else decide ((↑((whereS r (x70:Int)).length):Int)=0))=true)/\True)/\True)/\((!bif !decide (openE r (isFound r (x70:Int))=0) then true else decide ((↑((whereS r (x70:Int)).length):Int)=0))=true->(((!bif !decide (openE r (isFound r (x70:Int))=0) then true else decide ((↑((whereS r (x70:Int)).length):Int)=0))=true->(!bif !decide (openE r (isFound r (x70:Int))=0) then true else decide ((↑((whereS r (x70:Int)).length):Int)=0))=true)/\True/\True)/\inI ((↑(r.machines.length):Int) - 1))/\((!bif !decide (openE r (isFound r (x70:Int))=0) then true else decide ((↑((whereS r (x70:Int)).length):Int)=0))=true->(True/\((!bif !decide (openE r (isFound r (x70:Int))=0) then true else decide ((↑((whereS r (x70:Int)).length):Int)=0))=true->(!bif !decide (openE r (isFound r (x70:Int))=0) then true else decide ((↑((whereS r (x70:Int)).length):Int)=0))=true)/\True/\((!bif !decide (openE r (isFound r (x70:Int))=0) then true else decide ((↑((whereS r (x70:Int)).length):Int)=0))=true->(!bif !decide (openE r (isFound r (x70:Int))=0) then true else decide ((↑((whereS r (x70:Int)).length):Int)=0))=true)/\True)/\((1=1/\(whereS r (x70:Int)).length=(whereS r (x70:Int)).length /\ ∀ (i97:Nat),i97 < (whereS r (x70:Int)).length -> [iv ((whereS r (x70:Int)).getD i97 0)] = [iv ((whereS r (x70:Int)).getD i97 0)])/\iv 0=iv 0/\iv ((↑(r.machines.length):Int) - 1)=iv ((↑(r.machines.length):Int) - 1)/\True)/\Triple Try.prog 52 (s52 (whereS r (x70:Int)) 0 ((↑(r.machines.length):Int) - 1))/\(whereS r (x70:Int)).length<=1125899906842624/\True /\ ∀ (i99:Env),True)/\((!bif !decide (openE r (isFound r (x70:Int))=0) then true else decide ((↑((whereS r (x70:Int)).length):Int)=0))=true->(((!bif !decide (openE r (isFound r (x70:Int))=0) then true else decide ((↑((whereS r (x70:Int)).length):Int)=0))=true->(!bif !decide (openE r (isFound r (x70:Int))=0) then true else decide ((↑((whereS r (x70:Int)).length):Int)=0))=true)/\True)/\True)/\(((bif !decide (openE r (isFound r (x70:Int))=0) then true else decide ((↑((whereS r (x70:Int)).length):Int)=0))=true->True)/\((bif !decide (openE r (isFound r (x70:Int))=0) then true else decide ((↑((whereS r (x70:Int)).length):Int)=0))=false->(!bif !decide (openE r (isFound r (x70:Int))=0) then true else decide ((↑((whereS r (x70:Int)).length):Int)=0))=true))/\True) (st':=ASt.mk [(1,.ptr 0 []),(2,.ptr 8 []),(14,iv (x70:Int)),(4,.ptr 5010 []),(15,aInts (whereS r (x70:Int))),(139,bv (bif bif !decide (openE r (isFound r (x70:Int))=0) then true else decide ((↑((whereS r (x70:Int)).length):Int)=0) then true else !rising (whereS r (x70:Int)) 0 ((↑(r.machines.length):Int) - 1)))] [(0,.cells 25 (cRun r)),(8,.cells 62 [nilv,nilv,nilv,nilv,iv 0,iv 0,iv 0]),(5010,.cells 62 [.vec 5011,.vec 5012,.vec 5013,.vec 5014,iv 0,iv 0,iv 0]),(5011,.vec 37 2 (r.machines.length * r.plates.toNat) fun (k:Nat)=>cSpan (wAt r k)),(5012,.vec 37 2 r.plates.toNat fun (k:Nat)=>cSpan (oldS r (k:Int))),(5013,.vec 30 1 x70 fun (k:Nat)=>[aInts (whereS r (k:Int))]),(5014,.vec 3 1 r.machines.length fun (k:Nat)=>[iv (mixedS r (k:Int))])] 30360) (by kernel_rfl) ⟨tv,tv,tv,(fun h79=>⟨⟨tv,tv⟩,tv⟩),(fun h80=>⟨⟨(fun h81=>h80),tv⟩,tv⟩),(fun h82=>⟨⟨(fun h83=>h82),tv,tv⟩,tv⟩),⟨(fun h84=>tv),(fun h85=>(o43 hp x0 hx0 h1 x50 hx50 h55 x70 hx70 h77 h85))⟩,tv,(fun h86=>⟨⟨tv,tv⟩,tv⟩),(fun h87=>⟨⟨tv,tv⟩,tv⟩),(fun h88=>⟨⟨(fun h89=>h88),tv⟩,tv⟩),(fun h90=>⟨⟨(fun h91=>h90),tv⟩,tv⟩),(fun h92=>⟨⟨(fun h93=>h92),tv,tv⟩,(o44 hp x0 hx0 h1 x50 hx50 h55 x70 hx70 h77 h92)⟩),(fun h94=>⟨⟨tv,(fun h95=>h94),tv,(fun h96=>h94),tv⟩,⟨⟨rfl,rfl,(fun i97=>(fun h98=>rfl))⟩,rfl,rfl,tv⟩,(t52 (whereS r (x70:Int)) (0) ((↑(r.machines.length):Int) - 1)),(o45 hp x0 hx0 h1 x50 hx50 h55 x70 hx70 h77 h94),tv,(fun i99=>tv)⟩),(fun h100=>⟨⟨(fun h101=>h100),tv⟩,tv⟩),⟨(fun h102=>tv),(fun h103=>(o46 hp x0 hx0 h1 x50 hx50 h55 x70 hx70 h77 h103))⟩,tv⟩ ?_
    refine swp_cond (bif bif !decide (openE r (isFound r (x70:Int))=0) then true else decide ((↑((whereS r (x70:Int)).length):Int)=0) then true else !rising (whereS r (x70:Int)) 0 ((↑(r.machines.length):Int) - 1)) (by kernel_rfl) (fun h=>by cases (h.symm.trans (o47 hp x0 hx0 h1 x50 hx50 h55 x70 hx70 h77))) (fun _ => ?_)
    refine swp_skip ?_
    refine sR (kt:=[1,2,14,4]) (kh:=[0,8,5010,5011,5012,30392,5014]) (q:=True/\True/\True/\True/\x70 + 1<=65536/\True/\True/\True) (st':=ASt.mk [(1,.ptr 0 []),(2,.ptr 8 []),(14,iv (x70:Int)),(4,.ptr 5010 [])] [(0,.cells 25 (cRun r)),(8,.cells 62 [nilv,nilv,nilv,nilv,iv 0,iv 0,iv 0]),(5010,.cells 62 [.vec 5011,.vec 5012,.vec 30392,.vec 5014,iv 0,iv 0,iv 0]),(5011,.vec 37 2 (r.machines.length * r.plates.toNat) fun (k:Nat)=>cSpan (wAt r k)),(5012,.vec 37 2 r.plates.toNat fun (k:Nat)=>cSpan (oldS r (k:Int))),(30392,.vec 30 1 (x70 + 1) (catF x70 (fun (k:Nat)=>[aInts (whereS r (k:Int))]) fun (j:Nat)=>List.getD [[.sl 1 (whereS r (x70:Int)).length fun (i:Nat)=>[iv ((whereS r (x70:Int)).getD i 0)]]] j (TI.za ti30))),(5014,.vec 3 1 r.machines.length fun (k:Nat)=>[iv (mixedS r (k:Int))])] 30416) (by kernel_rfl) ⟨tv,tv,tv,tv,(o48 hp x0 hx0 h1 x50 hx50 h55 x70 hx70 h77),tv,tv,tv⟩ ?_
    refine sR (kt:=[1,2,14,4]) (kh:=[0,8,5010,5011,5012,30392,5014]) (q:=True/\inI ((x70:Int) + 1)/\True/\True) (st':=ASt.mk [(1,.ptr 0 []),(2,.ptr 8 []),(14,iv ((x70:Int) + 1)),(4,.ptr 5010 [])] [(0,.cells 25 (cRun r)),(8,.cells 62 [nilv,nilv,nilv,nilv,iv 0,iv 0,iv 0]),(5010,.cells 62 [.vec 5011,.vec 5012,.vec 30392,.vec 5014,iv 0,iv 0,iv 0]),(5011,.vec 37 2 (r.machines.length * r.plates.toNat) fun (k:Nat)=>cSpan (wAt r k)),(5012,.vec 37 2 r.plates.toNat fun (k:Nat)=>cSpan (oldS r (k:Int))),(30392,.vec 30 1 (x70 + 1) (catF x70 (fun (k:Nat)=>[aInts (whereS r (k:Int))]) fun (j:Nat)=>List.getD [[.sl 1 (whereS r (x70:Int)).length fun (i:Nat)=>[iv ((whereS r (x70:Int)).getD i 0)]]] j (TI.za ti30))),(5014,.vec 3 1 r.machines.length fun (k:Nat)=>[iv (mixedS r (k:Int))])] 30440) (by kernel_rfl) ⟨tv,(o49 hp x0 hx0 h1 x50 hx50 h55 x70 hx70 h77),tv,tv⟩ ?_
    exact loop_next (Hint.ann (h47d r) [(1,AV.ptr 0 []),(2,AV.ptr 8 [])] [(0,OB.cells 25 (cRun r)),(8,OB.cells 62 [nilv,nilv,nilv,nilv,iv 0,iv 0,iv 0])] 30128) x70 (ent_q hE [] [(0,.same 0),(8,.same 8),(5010,.same 5010),(5011,.same 5011),(5012,.same 5012),(5013,.same 30392),(5014,.same 5014)] [] [0,8,5011,5012,5014] (((some (Src.same 0)=some (Src.same 0)/\nilP = [])/\(some (Src.same 8)=some (Src.same 8)/\nilP = [])/\(iv ((x70:Int) + 1)=iv (↑(x70 + 1):Int)/\nilN = [])/\(some (Src.same 5010)=some (Src.same 5010)/\nilP = [])/\True)/\((OB.cells 25 (cRun r)=OB.cells 25 (cRun r)/\true=true)/\(OB.cells 62 [nilv,nilv,nilv,nilv,iv 0,iv 0,iv 0]=OB.cells 62 [nilv,nilv,nilv,nilv,iv 0,iv 0,iv 0]/\true=true)/\(62=62/\(some (Src.same 5011)=some (Src.same 5011)/\some (Src.same 5012)=some (Src.same 5012)/\some (Src.same 30392)=some (Src.same 30392)/\some (Src.same 5014)=some (Src.same 5014)/\(iv 0=iv 0/\nilN = [])/\(iv 0=iv 0/\nilN = [])/\(iv 0=iv 0/\nilN = [])/\True)/\true=true)/\(((OB.vec 37 2 (r.machines.length * r.plates.toNat) fun (k:Nat)=>cSpan (wAt r k))=OB.vec 37 2 (r.machines.length * r.plates.toNat) fun (k:Nat)=>cSpan (wAt r k))/\true=true)/\(((OB.vec 37 2 r.plates.toNat fun (k:Nat)=>cSpan (oldS r (k:Int)))=OB.vec 37 2 r.plates.toNat fun (k:Nat)=>cSpan (oldS r (k:Int)))/\true=true)/\(30=30/\1=1/\x70 + 1=x70 + 1 /\ ∀ (i104:Nat),i104 < x70 + 1->catF x70 (fun (k:Nat)=>[aInts (whereS r (k:Int))]) (fun (j:Nat)=>List.getD [[AV.sl 1 (whereS r (x70:Int)).length fun (i:Nat)=>[iv ((whereS r (x70:Int)).getD i 0)]]] j (TI.za ti30)) i104 = [aInts (whereS r (i104:Int))])/\(((OB.vec 3 1 r.machines.length fun (k:Nat)=>[iv (mixedS r (k:Int))])=OB.vec 3 1 r.machines.length fun (k:Nat)=>[iv (mixedS r (k:Int))])/\true=true)/\True)/\T2) (by kernel_rfl) (by kernel_rfl) ⟨⟨⟨rfl,rfl⟩,⟨rfl,rfl⟩,⟨(congrArg iv (o50 hp x0 hx0 h1 x50 hx50 h55 x70 hx70 h77)),rfl⟩,⟨rfl,rfl⟩,tv⟩,⟨⟨rfl,rfl⟩,⟨rfl,rfl⟩,⟨rfl,⟨rfl,rfl,rfl,rfl,⟨rfl,rfl⟩,⟨rfl,rfl⟩,⟨rfl,rfl⟩,tv⟩,rfl⟩,⟨rfl,rfl⟩,⟨rfl,rfl⟩,⟨rfl,rfl,rfl,(fun i104=>(fun h105=>(o51 hp x0 hx0 h1 x50 hx50 h55 x70 hx70 h77 i104 h105)))⟩,⟨rfl,rfl⟩,tv⟩,rfl,rfl⟩) (o52 hp x0 hx0 h1 x50 hx50 h55 x70 hx70 h77) (o53 hp x0 hx0 h1 x50 hx50 h55 x70 hx70 h77)
   ·refine swp_exit (swp_seq ?_)
    refine swp_region T0_ok mixed (cs:=[(1,CallSpec.eq (s27 r) [true])]) (kt:=[1,2,4,17,18]) (kh:=[0,8,5010,30208,5011,5012,5013,5014]) (q:=True/\((AV.agg (cRun r)=AV.agg (cRun r)/\True)/\Triple Try.prog 27 (s27 r)/\fits r/\True /\ ∀ (i106:Env),True)/\True/\True/\True/\True/\True/\True/\True) (st':=ASt.mk [(1,.ptr 0 []),(2,.ptr 8 []),(4,.ptr 5010 []),(17,.ptr 30208 []),(18,iv (openE r true))] [(0,.cells 25 (cRun r)),(8,.cells 62 [nilv,nilv,nilv,nilv,iv 0,iv 0,iv 0]),(5010,.cells 62 [.vec 5011,.vec 5012,.vec 5013,.vec 5014,iv 0,iv 0,iv 0]),(30208,.cells 37 (cSpan (mixesS r))),(5011,.vec 37 2 (r.machines.length * r.plates.toNat) fun (k:Nat)=>cSpan (wAt r k)),(5012,.vec 37 2 r.plates.toNat fun (k:Nat)=>cSpan (oldS r (k:Int))),(5013,.vec 30 1 x70 fun (k:Nat)=>[aInts (whereS r (k:Int))]),(5014,.vec 3 1 r.machines.length fun (k:Nat)=>[iv (mixedS r (k:Int))])] 30232) (by kernel_rfl) ⟨tv,⟨⟨rfl,tv⟩,(t27 (r)),hp.1,tv,(fun i106=>tv)⟩,tv,tv,tv,tv,tv,tv,tv⟩ ?_
    refine swp_seq ?_
    refine swp_region T0_ok mixed (cs:=[(1,CallSpec.eq (s22 r) [true])]) (kt:=[1,2,4,17,18,19,20]) (kh:=[0,8,5010,30208,5011,5012,5013,5014]) (q:=True/\((AV.agg (cRun r)=AV.agg (cRun r)/\True)/\Triple Try.prog 22 (s22 r)/\fits r/\True /\ ∀ (i107:Env),True)/\True/\True/\True/\True/\True/\True) (st':=ASt.mk [(1,.ptr 0 []),(2,.ptr 8 []),(4,.ptr 5010 []),(17,.ptr 30208 []),(18,iv (openE r true)),(19,iv (fewP r)),(20,iv (openE r true))] [(0,.cells 25 (cRun r)),(8,.cells 62 [nilv,nilv,nilv,nilv,iv 0,iv 0,iv 0]),(5010,.cells 62 [.vec 5011,.vec 5012,.vec 5013,.vec 5014,iv 0,iv 0,iv 0]),(30208,.cells 37 (cSpan (mixesS r))),(5011,.vec 37 2 (r.machines.length * r.plates.toNat) fun (k:Nat)=>cSpan (wAt r k)),(5012,.vec 37 2 r.plates.toNat fun (k:Nat)=>cSpan (oldS r (k:Int))),(5013,.vec 30 1 x70 fun (k:Nat)=>[aInts (whereS r (k:Int))]),(5014,.vec 3 1 r.machines.length fun (k:Nat)=>[iv (mixedS r (k:Int))])] 30288) (by kernel_rfl) ⟨tv,⟨⟨rfl,tv⟩,(t22 (r)),hp.1,tv,(fun i107=>tv)⟩,tv,tv,tv,tv,tv,tv⟩ ?_
    refine swp_seq ?_
    refine sR (kt:=[1,2,4,17,18,19,20]) (kh:=[0,8,5010,30208,5011,5012,5013,5014]) (q:=True/\True/\True/\True/\True/\True/\True) (st':=ASt.mk [(1,.ptr 0 []),(2,.ptr 8 []),(4,.ptr 5010 []),(17,.ptr 30208 []),(18,iv (openE r true)),(19,iv (fewP r)),(20,iv (openE r true))] [(0,.cells 25 (cRun r)),(8,.cells 62 [nilv,nilv,nilv,nilv,iv 0,iv 0,iv 0]),(5010,.cells 62 [.vec 5011,.vec 5012,.vec 5013,.vec 5014,iv (mixesS r).lo,iv (mixesS r).hi,iv (fewP r)]),(30208,.cells 37 (cSpan (mixesS r))),(5011,.vec 37 2 (r.machines.length * r.plates.toNat) fun (k:Nat)=>cSpan (wAt r k)),(5012,.vec 37 2 r.plates.toNat fun (k:Nat)=>cSpan (oldS r (k:Int))),(5013,.vec 30 1 x70 fun (k:Nat)=>[aInts (whereS r (k:Int))]),(5014,.vec 3 1 r.machines.length fun (k:Nat)=>[iv (mixedS r (k:Int))])] 30336) (by kernel_rfl) ⟨tv,tv,tv,tv,tv,tv,tv⟩ ?_
    refine swp_seq ?_
    refine swp_region T0_ok mixed (cs:=[(9,CallSpec.eq (s29 0 810) [true,true]),(10,CallSpec.eq (s28 (mixesS r) (Span.mk 0 810)) [true,true])]) (kt:=[2,3]) (kh:=[8,5011,5012,5013,5014]) (q:=True/\True/\True/\True/\(decide (openE r true=0)=true->(True/\True)/\True)/\(decide (openE r true=0)=true->((decide (openE r true=0)=true->decide (openE r true=0)=true)/\True/\True)/\True)/\((decide (openE r true=0)=true->decide (openE r true=0)=true)/\(decide (openE r true=0)=false->True))/\True/\((bif decide (openE r true=0) then decide (openE r true=0) else false)=true->(True/\True)/\True)/\((bif decide (openE r true=0) then decide (openE r true=0) else false)=true->(True/\True/\True/\True)/\(iv 0=iv 0/\iv 810=iv 810/\True)/\Triple Try.prog 29 (s29 0 810)/\True/\True /\ ∀ (i115:Env),True)/\((bif decide (openE r true=0) then decide (openE r true=0) else false)=true->(True/\((bif decide (openE r true=0) then decide (openE r true=0) else false)=true->(bif decide (openE r true=0) then decide (openE r true=0) else false)=true)/\((bif decide (openE r true=0) then decide (openE r true=0) else false)=true->(bif decide (openE r true=0) then decide (openE r true=0) else false)=true)/\True)/\(AV.agg (cSpan (mixesS r))=AV.agg (cSpan (mixesS r))/\AV.agg (cSpan (Span.mk 0 810))=AV.agg (cSpan (Span.mk 0 810))/\True)/\Triple Try.prog 28 (s28 (mixesS r) (Span.mk 0 810))/\True/\True /\ ∀ (i119:Env),True)/\(((bif decide (openE r true=0) then decide (openE r true=0) else false)=true->(bif decide (openE r true=0) then decide (openE r true=0) else false)=true)/\((bif decide (openE r true=0) then decide (openE r true=0) else false)=false->True))/\True/\((bif bif decide (openE r true=0) then decide (openE r true=0) else false then inside (mixesS r) (Span.mk 0 810) else false)=true->(True/\True)/\True)/\((bif bif decide (openE r true=0) then decide (openE r true=0) else false then inside (mixesS r) (Span.mk 0 810) else false)=true->(((bif bif decide (openE r true=0) then decide (openE r true=0) else false then inside (mixesS r) (Span.mk 0 810) else false)=true->(bif bif decide (openE r true=0) then decide (openE r true=0) else false then inside (mixesS r) (Span.mk 0 810) else false)=true)/\True/\True)/\True)/\(((bif bif decide (openE r true=0) then decide (openE r true=0) else false then inside (mixesS r) (Span.mk 0 810) else false)=true->(bif bif decide (openE r true=0) then decide (openE r true=0) else false then inside (mixesS r) (Span.mk 0 810) else false)=true)/\((bif bif decide (openE r true=0) then decide (openE r true=0) else false then inside (mixesS r) (Span.mk 0 810) else false)=false->True))/\True/\((bif bif bif decide (openE r true=0) then decide (openE r true=0) else false then inside (mixesS r) (Span.mk 0 810) else false then decide (0<=fewP r) else false)=true->(True/\True)/\True)/\((bif bif bif decide (openE r true=0) then decide (openE r true=0) else false then inside (mixesS r) (Span.mk 0 810) else false then decide (0<=fewP r) else false)=true->(True/\True)/\True)/\((bif bif bif decide (openE r true=0) then decide (openE r true=0) else false then inside (mixesS r) (Span.mk 0 810) else false then decide (0<=fewP r) else false)=true->(((bif bif bif decide (openE r true=0) then decide (openE r true=0) else false then inside (mixesS r) (Span.mk 0 810) else false then decide (0<=fewP r) else false)=true->(bif bif bif decide (openE r true=0) then decide (openE r true=0) else false then inside (mixesS r) (Span.mk 0 810) else false then decide (0<=fewP r) else false)=true)/\True)/\True)/\((bif bif bif decide (openE r true=0) then decide (openE r true=0) else false then inside (mixesS r) (Span.mk 0 810) else false then decide (0<=fewP r) else false)=true->(((bif bif bif decide (openE r true=0) then decide (openE r true=0) else false then inside (mixesS r) (Span.mk 0 810) else false then decide (0<=fewP r) else false)=true->(bif bif bif decide (openE r true=0) then decide (openE r true=0) else false then inside (mixesS r) (Span.mk 0 810) else false then decide (0<=fewP r) else false)=true)/\True)/\True)/\((bif bif bif decide (openE r true=0) then decide (openE r true=0) else false then inside (mixesS r) (Span.mk 0 810) else false then decide (0<=fewP r) else false)=true->(((bif bif bif decide (openE r true=0) then decide (openE r true=0) else false then inside (mixesS r) (Span.mk 0 810) else false then decide (0<=fewP r) else false)=true->(bif bif bif decide (openE r true=0) then decide (openE r true=0) else false then inside (mixesS r) (Span.mk 0 810) else false then decide (0<=fewP r) else false)=true)/\((bif bif bif decide (openE r true=0) then decide (openE r true=0) else false then inside (mixesS r) (Span.mk 0 810) else false then decide (0<=fewP r) else false)=true->(bif bif bif decide (openE r true=0) then decide (openE r true=0) else false then inside (mixesS r) (Span.mk 0 810) else false then decide (0<=fewP r) else false)=true)/\True)/\True)/\(((bif bif bif decide (openE r true=0) then decide (openE r true=0) else false then inside (mixesS r) (Span.mk 0 810) else false then decide (0<=fewP r) else false)=true->(bif bif bif decide (openE r true=0) then decide (openE r true=0) else false then inside (mixesS r) (Span.mk 0 810) else false then decide (0<=fewP r) else false)=true)/\((bif bif bif decide (openE r true=0) then decide (openE r true=0) else false then inside (mixesS r) (Span.mk 0 810) else false then decide (0<=fewP r) else false)=false->True))/\True/\True/\True) (st':=ASt.mk [(2,.ptr 8 []),(3,bv (bif bif bif bif decide (openE r true=0) then decide (openE r true=0) else false then inside (mixesS r) (Span.mk 0 810) else false then decide (0<=fewP r) else false then decide (fewP r<=(↑(r.machines.length):Int)) else false))] [(8,.cells 62 [.vec 5011,.vec 5012,.vec 5013,.vec 5014,iv (mixesS r).lo,iv (mixesS r).hi,iv (fewP r)]),(5011,.vec 37 2 (r.machines.length * r.plates.toNat) fun (k:Nat)=>cSpan (wAt r k)),(5012,.vec 37 2 r.plates.toNat fun (k:Nat)=>cSpan (oldS r (k:Int))),(5013,.vec 30 1 x70 fun (k:Nat)=>[aInts (whereS r (k:Int))]),(5014,.vec 3 1 r.machines.length fun (k:Nat)=>[iv (mixedS r (k:Int))])] 30536) (by kernel_rfl) ⟨tv,tv,tv,tv,(fun h108=>⟨⟨tv,tv⟩,tv⟩),(fun h109=>⟨⟨(fun h110=>h109),tv,tv⟩,tv⟩),⟨(fun h111=>h111),(fun h112=>tv)⟩,tv,(fun h113=>⟨⟨tv,tv⟩,tv⟩),(fun h114=>⟨⟨tv,tv,tv,tv⟩,⟨rfl,rfl,tv⟩,(t29 (0) (810)),tv,tv,(fun i115=>tv)⟩),(fun h116=>⟨⟨tv,(fun h117=>h116),(fun h118=>h116),tv⟩,⟨rfl,rfl,tv⟩,(t28 (mixesS r) (Span.mk 0 810)),tv,tv,(fun i119=>tv)⟩),⟨(fun h120=>h120),(fun h121=>tv)⟩,tv,(fun h122=>⟨⟨tv,tv⟩,tv⟩),(fun h123=>⟨⟨(fun h124=>h123),tv,tv⟩,tv⟩),⟨(fun h125=>h125),(fun h126=>tv)⟩,tv,(fun h127=>⟨⟨tv,tv⟩,tv⟩),(fun h128=>⟨⟨tv,tv⟩,tv⟩),(fun h129=>⟨⟨(fun h130=>h129),tv⟩,tv⟩),(fun h131=>⟨⟨(fun h132=>h131),tv⟩,tv⟩),(fun h133=>⟨⟨(fun h134=>h133),(fun h135=>h133),tv⟩,tv⟩),⟨(fun h136=>h136),(fun h137=>tv)⟩,tv,tv,tv⟩ ?_
    refine swp_ret ?_
    exact ret_q [5011,5012,5013,5014] ((True/\True/\True)/\(((2=2/\r.machines.length * r.plates.toNat=(Tld.when (toldOf r)).length /\ ∀ (i138:Nat),i138 < (Tld.when (toldOf r)).length->cSpan (wAt r i138) = [iv ((Tld.when (toldOf r)).getD i138 default).lo,iv ((Tld.when (toldOf r)).getD i138 default).hi])/\(2=2/\r.plates.toNat=(Tld.old (toldOf r)).length /\ ∀ (i140:Nat),i140 < (Tld.old (toldOf r)).length->cSpan (oldS r (i140:Int)) = [iv ((Tld.old (toldOf r)).getD i140 default).lo,iv ((Tld.old (toldOf r)).getD i140 default).hi])/\(1=1/\x70=(Tld.whr (toldOf r)).length /\ ∀ (i142:Nat),i142 < (Tld.whr (toldOf r)).length -> [aInts (whereS r (i142:Int))] = [aInts ((Tld.whr (toldOf r)).getD i142 [])])/\(1=1/\r.machines.length=(Tld.mixed (toldOf r)).length /\ ∀ (i144:Nat),i144 < (Tld.mixed (toldOf r)).length -> [iv (mixedS r (i144:Int))] = [iv ((Tld.mixed (toldOf r)).getD i144 0)])/\(iv (mixesS r).lo=iv (Tld.mixes (toldOf r)).lo/\nilN = [])/\(iv (mixesS r).hi=iv (Tld.mixes (toldOf r)).hi/\nilN = [])/\(iv (fewP r)=iv (Tld.fewest (toldOf r))/\nilN = [])/\True)/\(bv (bif bif bif bif decide (openE r true=0) then decide (openE r true=0) else false then inside (mixesS r) (Span.mk 0 810) else false then decide (0<=fewP r) else false then decide (fewP r<=(↑(r.machines.length):Int)) else false)=bv true/\nilN = [])/\True)/\T3) (by kernel_rfl) ⟨⟨tv,tv,tv⟩,⟨⟨⟨rfl,(o54 hp x0 hx0 h1 x50 hx50 h55 x70 hx70 h77),(fun i138=>(fun h139=>(o55 hp x0 hx0 h1 x50 hx50 h55 x70 hx70 h77 i138 h139)))⟩,⟨rfl,(o56 hp x0 hx0 h1 x50 hx50 h55 x70 hx70 h77),(fun i140=>(fun h141=>(o57 hp x0 hx0 h1 x50 hx50 h55 x70 hx70 h77 i140 h141)))⟩,⟨rfl,(o58 hp x0 hx0 h1 x50 hx50 h55 x70 hx70 h77),(fun i142=>(fun h143=>(o59 hp x0 hx0 h1 x50 hx50 h55 x70 hx70 h77 i142 h143)))⟩,⟨rfl,(o60 hp x0 hx0 h1 x50 hx50 h55 x70 hx70 h77),(fun i144=>(fun h145=>(o61 hp x0 hx0 h1 x50 hx50 h55 x70 hx70 h77 i144 h145)))⟩,⟨(congrArg iv (o62 hp x0 hx0 h1 x50 hx50 h55 x70 hx70 h77)),rfl⟩,⟨(congrArg iv (o63 hp x0 hx0 h1 x50 hx50 h55 x70 hx70 h77)),rfl⟩,⟨(congrArg iv (o64 hp x0 hx0 h1 x50 hx50 h55 x70 hx70 h77)),rfl⟩,tv⟩,⟨(congrArg bv (o65 hp x0 hx0 h1 x50 hx50 h55 x70 hx70 h77)),rfl⟩,tv⟩,rfl,rfl,rfl⟩
theorem tell_cells (r:Run) (m k:Nat) (h:(k:Int) < r.plates):[iv (whenS r m k).lo,iv (whenS r m k).hi]=cSpan (wAt r (m * r.plates.toNat + k)):=by rw [wAt_idx r h]; rfl
theorem t47 (r:Run):Triple Try.prog 47 (s47 r):=by
 apply w47
 case o65 =>
  intro hp
  have T:=(tellF hp.2.1 hp.2.2).one
  (repeat intro _)
  have h1:=mixes_in T
  have h2:=few_val0 T
  rw [one_open T rfl]
  simp [inside,h1,h2]
 all_goals (first | ((repeat intro _) <;> (try simp only [v0,v1,v2,v3,v4,v5,v6,v7,v8,v9,inI,fits,Go.Sh.small] at *) <;> first | (exact rfl) | omega | exact vz | (simp_all; done) | (simp_all; omega)) | skip)
 all_goals (intro hp; have T:=(tellF hp.2.1 hp.2.2).one; have hpl:=T.ok.plates; have hml:=T.ok.machines; have hfl:=T.ok.found; intro x hx hl; simp only [decide_eq_true_eq,decide_eq_false_iff_not] at hl)
 case o29 =>
  have e:x=r.machines.length:=by omega
  rw [e]
 case o9=>intro y hy h _; have:=(T.ok.mach x (by omega)).1; simp only [decide_eq_true_eq] at h; omega
 case o11 =>
  intro y hy h
  simp only [decide_eq_true_eq] at h
  have h1:=when_in T (m:=x) (p:=y) (by omega) h
  unfold chg at h1
  rw [h1,one_open T (whenIs_nat T.ok (m:=x) (p:=y) (by omega) h)]; rfl
 case o12=>intro y hy h; have:=Nat.mul_le_mul (show x<=3 by omega) (show r.plates.toNat<=3 by omega); omega
 case o13 | o35=>intro y hy h; exact ⟨by omega,by omega⟩
 case o16=>intro y hy h i hi; simp only [decide_eq_true_eq] at h; exact catF_idx (fun k=>cSpan (wAt r k)) (tell_cells r x y h) hi
 case o20 =>
  intro y hy h
  rw [mixed_range T (m:=x) (by omega),one_open T (isMachine_nat (m:=x) (by omega))]; rfl
 case o21 | o34=>(repeat intro _); omega
 case o24 =>
  intro y hy h
  simp only [decide_eq_false_iff_not] at h
  rw [Nat.add_mul,Nat.one_mul]; omega
 case o25=>intro y hy h i hi; exact catF_idx (fun k:Nat=>[iv (mixedS r k)]) rfl hi
 case o33 =>
  intro y hy h
  simp only [decide_eq_true_eq] at h
  have h1:=old_in T (p:=y) h
  rw [one_open T (isPlate_nat T.ok h)]
  simp [inside,h1]
 case o37=>intro y hy h i hi; exact catF_idx (fun k:Nat=>cSpan (oldS r k)) rfl hi
 all_goals (intro y hy hyl z hz hzl; simp only [decide_eq_true_eq,decide_eq_false_iff_not] at hyl hzl)
 case o45=>intro _; have:=where_facts T (i:=z) (by omega); omega
 case o47 =>
  obtain ⟨h1,h2,h3⟩:=where_facts T (i:=z) (by omega)
  rw [one_open T (isFound_nat (i:=z) (by omega)),h3]
  have:¬ ((whereS r z).length:Int)=0:=by omega
  simp [h1]
 case o48=>omega
 case o51=>intro i hi; exact catF_idx (fun k:Nat=>[aInts (whereS r k)]) rfl hi
 case o54=>simp only [toldOf,tWhen_len]
 case o55=>intro i hi; simp only [toldOf,tWhen_len] at hi ⊢; rw [tWhen_get _ hi]; rfl
 case o56=>simp only [toldOf,tOld_len]
 case o57=>intro i hi; simp only [toldOf,tOld_len] at hi ⊢; rw [tOld_get _ hi]; rfl
 case o58=>simp only [toldOf,tWhr_len]; omega
 case o59=>intro i hi; simp only [toldOf,tWhr_len] at hi ⊢; rw [tWhr_get _ hi]
 case o60=>simp only [toldOf,tMix_len]
 case o61=>intro i hi; simp only [toldOf,tMix_len] at hi ⊢; rw [tMix_get _ hi]
end Go.Ab
namespace Go.Sh
theorem okAt_iff {c:Fnd} {p:Nat} (n:Int) (h : -1<=c.new.getD p 0/\c.new.getD p 0<=1):(decide (c.new.getD p 0 = -1) || (decide (c.new.getD p 0=1) == decide (n<=c.minute)))=true ↔ okAt c p n:=by
 unfold okAt
 generalize c.new.getD p 0=x at *
 have:x = -1 ∨ x=0 ∨ x=1:=by omega
 rcases this with rfl | rfl | rfl
 ·simp
 ·by_cases e:n<=c.minute
  ·simp [e]; omega
  ·simp [e]; omega
 ·by_cases e:n<=c.minute
  ·simp [e]
  ·simp [e]
theorem truth_iff {r:Run} (ok:Ok r) (t:Trth):isTruth r t=true ↔ (t.minutes.length=r.machines.length/\t.frm.length=r.found.length)/\(∀ m,m < r.machines.length->((tmin t m).length:Int)=r.plates)/\(∀ i,i < r.found.length->t.frm.getD i 0 ∈ (fnd r i).frm) ∧
  ∀ m,m < r.machines.length -> ∀ p:Nat,(p:Int) < r.plates->(spanOf r t.frm m p).lo<=tAt t m p/\tAt t m p<=(spanOf r t.frm m p).hi:=by
 have hpl:=ok.plates
 have hF:∀ i,i < r.found.length->(trF r t i=true ↔ t.frm.getD i 0 ∈ (fnd r i).frm /\ ∀ p:Nat,(p:Int) < r.plates->okAt (fnd r i) p (tAt t (t.frm.getD i 0).toNat p)):=by
  intro i hi
  have hn:∀ p:Nat,(p:Int) < r.plates -> -1<=(fnd r i).new.getD p 0/\(fnd r i).new.getD p 0<=1:=by
   intro p hp
   have:=ok.fnd i hi
   exact ok.new i hi p (by omega)
  unfold trF
  rw [Bool.and_eq_true,isIn_mem,List.all_eq_true]
  constructor
  ·rintro ⟨a,b⟩
   exact ⟨a,fun p hp=>(okAt_iff _ (hn p hp)).1 (b p (List.mem_range.2 (by omega)))⟩
  ·rintro ⟨a,b⟩
   exact ⟨a,fun p hp=>(okAt_iff _ (hn p (by have:=List.mem_range.1 hp; omega))).2 (b p (by have:=List.mem_range.1 hp; omega))⟩
 have hM:∀ m,trM r t m=true ↔ ((tmin t m).length:Int)=r.plates /\ ∀ p:Nat,(p:Int) < r.plates->(chg (mach r m) p).lo<=tAt t m p/\tAt t m p<=(chg (mach r m) p).hi:=by
  intro m
  unfold trM
  rw [Bool.and_eq_true,decide_eq_true_eq,List.all_eq_true]
  constructor
  ·rintro ⟨a,b⟩
   exact ⟨a,fun p hp=>within_iff.1 (b p (List.mem_range.2 (by omega)))⟩
  ·rintro ⟨a,b⟩
   exact ⟨a,fun p hp=>within_iff.2 (b p (by have:=List.mem_range.1 hp; omega))⟩
 unfold isTruth trHead
 simp only [Bool.and_eq_true,List.all_eq_true,List.mem_range,decide_eq_true_eq]
 constructor
 ·rintro ⟨h0,h1,h2⟩
  refine ⟨h0,fun m hm=>((hM m).1 (h1 m hm)).1,fun i hi=>((hF i hi).1 (h2 i hi)).1,fun m hm p hp => ?_⟩
  rw [spanOf_mem]
  refine ⟨((hM m).1 (h1 m hm)).2 p hp,fun i hi e => ?_⟩
  have:=((hF i (by omega)).1 (h2 i (by omega))).2 p hp
  rw [e,Int.toNat_natCast] at this
  exact this
 ·rintro ⟨h0,h1,h2,h3⟩
  refine ⟨h0,fun m hm=>(hM m).2 ⟨h1 m hm,fun p hp=>(spanOf_mem.1 (h3 m hm p hp)).1⟩,fun i hi=>(hF i hi).2 ⟨h2 i hi,fun p hp => ?_⟩⟩
  have hin:=frm_range ok hi (h2 i hi)
  exact (spanOf_mem.1 (h3 (t.frm.getD i 0).toNat (by omega) p hp)).2 i (by omega) (by omega)
theorem truth_froms {r:Run} (ok:Ok r) {t:Trth} (h:isTruth r t=true):t.frm ∈ fromsOf r:=by
 obtain ⟨h0,h1,h2,h3⟩:=(truth_iff ok t).1 h
 refine mem_froms.2 ⟨⟨h0.2,h2⟩,(canBe_iff ok).2 fun m hm p hp => ?_⟩
 have:=h3 m hm p hp
 omega
def longB (t:Trth):Bool:=decide ((t.minutes.length:Int) > 40) || decide ((t.frm.length:Int) > 40) || t.minutes.any (fun l=>decide ((l.length:Int) > 40))
theorem long_head {t:Trth} (h:(decide ((t.minutes.length:Int) > 40) || decide ((t.frm.length:Int) > 40))=true):longB t=true:=by simp [longB,h]
theorem long_row {t:Trth} {i:Nat} (hi:i < t.minutes.length) (h:((tmin t i).length:Int) > 40):longB t=true:=by
 have:=Go.Ab.some_any t.minutes [] (fun l=>decide ((l.length:Int) > 40)) hi (by simpa [tmin] using h)
 simp [longB,this]
theorem not_long {t:Trth} (h:(decide ((t.minutes.length:Int) > 40) || decide ((t.frm.length:Int) > 40))=false) (h1:∀ j,j < t.minutes.length -> ¬ ((tmin t j).length:Int) > 40):longB t=false:=by
 have:=Go.Ab.any_idx t.minutes [] (fun l=>decide ((l.length:Int) > 40)) (fun j hj=>by simpa [tmin] using h1 j hj)
 rw [longB,h,this]; rfl
end Go.Sh
namespace Go.Ab
open Go Go.RowKit Go.Proofs Go.Sh Go.En
def s49 (t:Trth):CallSpec:={ args:=[vTrth t],res:=bv (longB t),pre:=tfits t }
def h49 (t:Trth):Hint:={ X:=Nat,M:=fun i=>[(3,iv i)],I:=fun i=>i<=t.minutes.length /\ ∀ j,j < i -> ¬ ((tmin t j).length:Int) > 40,mu:=fun i=>t.minutes.length - i,x0:=(0:Nat),nx:=fun i=>i + 1 }
def h75 (t:Trth):Hint:={ X:=Nat,M:=fun i=>[(5,iv i)],I:=fun i=>i<=t.minutes.length,mu:=fun i=>t.minutes.length - i,x0:=(0:Nat),nx:=fun i=>i + 1 }
end Go.Ab
namespace Go.Ab
open Go Go.RowKit Go.Proofs Go.Sh Go.En
abbrev q49_1 (t:Trth) (C:Prop):Prop:=tfits t->(bif decide (40 < (↑(t.minutes.length):Int)) then true else decide (40 < (↑(t.frm.length):Int)))=false->C
abbrev q49_2 (t:Trth) (C:Nat->Prop):Prop:=q49_1 t (∀ (x10:Nat),(x10<=t.minutes.length /\ ∀ (j:Nat),j < x10 -> ¬(↑((tmin t j).length):Int) > 40)->C x10)
abbrev q49_3 (t:Trth) (C:Nat->Prop):Prop:=q49_2 t fun x10=>decide ((x10:Int) < (↑(t.minutes.length):Int))=true->C x10
abbrev q49_4 (t:Trth) (C:Nat->Prop):Prop:=q49_3 t fun x10=>decide (40 < (↑((t.minutes.getD x10 []).length):Int))=false->C x10
theorem w49 (t:Trth)
 (o0:tfits t->decide (40 < (↑(t.minutes.length):Int))=false->(!decide (40 < (↑(t.minutes.length):Int)))=true)
 (o1:tfits t->(bif decide (40 < (↑(t.minutes.length):Int)) then true else decide (40 < (↑(t.frm.length):Int)))=true->true=longB t)
 (o2:q49_1 t (0=(↑0:Int)))
 (o3:q49_1 t (0<=t.minutes.length /\ ∀ (j:Nat),j < 0 -> ¬(↑((tmin t j).length):Int) > 40))
 (o4:q49_3 t fun x10=>0<=(x10:Int))
 (o5:q49_3 t fun x10=>(x10:Int) < (↑(t.minutes.length):Int))
 (o6:q49_3 t fun x10=>decide (40 < (↑((t.minutes.getD x10 []).length):Int))=true->true=longB t)
 (o7:q49_4 t fun x10=>inI ((x10:Int) + 1))
 (o8:q49_4 t fun x10=>(x10:Int) + 1=(↑(x10 + 1):Int))
 (o9:q49_4 t fun x10=>x10 + 1<=t.minutes.length /\ ∀ (j:Nat),j < x10 + 1 -> ¬(↑((tmin t j).length):Int) > 40)
 (o10:q49_4 t fun x10=>t.minutes.length - (x10 + 1) < t.minutes.length - x10)
 (o11:q49_2 t fun x10=>decide ((x10:Int) < (↑(t.minutes.length):Int))=false->false=longB t) :
  Triple Try.prog 49 (s49 t):=by
 refine triple_of Try.func49 rfl Try.call49 T0_ok _ rfl rfl rfl rfl (Nat.le_of_ble_eq_true (by kernel_rfl)) (fun _ _ _ _ h=>h) ?_
 intro hp C hC _ hE
 obtain ⟨P,w0,E0,av,hA⟩:=C
 subst hC
 refine swp_seq ?_
 refine sR (kt:=[1]) (kh:=[0]) (q:=True/\True/\True) (st':=ASt.mk [(1,.ptr 0 [])] [(0,.cells 56 (cTrth t))] 16) (by kernel_rfl) ⟨tv,tv,tv⟩ ?_
 refine swp_seq (swp_seq ?_)
 refine sR (kt:=[1,13]) (kh:=[0]) (q:=True/\True/\True/\True/\True/\((!decide (40 < (↑(t.minutes.length):Int)))->(True/\True)/\True)/\((!decide (40 < (↑(t.minutes.length):Int)))->(((!decide (40 < (↑(t.minutes.length):Int)))->(!decide (40 < (↑(t.minutes.length):Int)))=true)/\True)/\True)/\((!decide (40 < (↑(t.minutes.length):Int)))->(((!decide (40 < (↑(t.minutes.length):Int)))->(!decide (40 < (↑(t.minutes.length):Int)))=true)/\True)/\True)/\((!decide (40 < (↑(t.minutes.length):Int)))->(((!decide (40 < (↑(t.minutes.length):Int)))->(!decide (40 < (↑(t.minutes.length):Int)))=true)/\True/\True)/\True)/\((decide (40 < (↑(t.minutes.length):Int))=true->True)/\(decide (40 < (↑(t.minutes.length):Int))=false->(!decide (40 < (↑(t.minutes.length):Int)))=true))/\True) (st':=ASt.mk [(1,.ptr 0 []),(13,bv (bif decide (40 < (↑(t.minutes.length):Int)) then true else decide (40 < (↑(t.frm.length):Int))))] [(0,.cells 56 (cTrth t))] 96) (by kernel_rfl) ⟨tv,tv,tv,tv,tv,(fun h0=>⟨⟨tv,tv⟩,tv⟩),(fun h1=>⟨⟨(fun h2=>h1),tv⟩,tv⟩),(fun h3=>⟨⟨(fun h4=>h3),tv⟩,tv⟩),(fun h5=>⟨⟨(fun h6=>h5),tv,tv⟩,tv⟩),⟨(fun h7=>tv),(fun h8=>(o0 hp h8))⟩,tv⟩ ?_
 refine swp_cond (bif decide (40 < (↑(t.minutes.length):Int)) then true else decide (40 < (↑(t.frm.length):Int))) (by kernel_rfl) (fun h9 => ?_) (fun h9 => ?_)
 ·refine swp_seq ?_
  refine sR (kt:=[2]) (kh:=[]) (q:=True/\True) (st':=ASt.mk [(2,bv true)] [] 104) (by kernel_rfl) ⟨tv,tv⟩ ?_
  refine swp_ret ?_
  exact ret_q [] ((True/\True)/\(bv true=bv (longB t)/\nilN = [])/\T3) (by kernel_rfl) ⟨⟨tv,tv⟩,⟨(congrArg bv (o1 hp h9)),rfl⟩,rfl,rfl,rfl⟩
 ·refine swp_skip (swp_seq (swp_seq ?_))
  refine sR (kt:=[1,3]) (kh:=[0]) (q:=True/\True) (st':=ASt.mk [(1,.ptr 0 []),(3,iv 0)] [(0,.cells 56 (cTrth t))] 104) (by kernel_rfl) ⟨tv,tv⟩ ?_
  refine swp_block ?_
  refine swp_loopA (Hint.ann (h49 t) [(1,AV.ptr 0 [])] [(0,OB.cells 56 (cTrth t))] 10104) (ent_q hE [] [(0,.same 0)] [] [0] (((some (Src.same 0)=some (Src.same 0)/\nilP = [])/\(iv 0=iv (↑0:Int)/\nilN = [])/\True)/\((OB.cells 56 (cTrth t)=OB.cells 56 (cTrth t)/\true=true)/\True)/\T2) (by kernel_rfl) (by kernel_rfl) ⟨⟨⟨rfl,rfl⟩,⟨(congrArg iv (o2 hp h9)),rfl⟩,tv⟩,⟨⟨rfl,rfl⟩,tv⟩,rfl,rfl⟩) (o3 hp h9) (fun (x10:Nat) hx10 => ?_)
  refine swp_seq (swp_seq ?_)
  refine sR (kt:=[1,3,18]) (kh:=[0]) (q:=True/\True/\True/\True/\True/\True) (st':=ASt.mk [(1,.ptr 0 []),(3,iv (x10:Int)),(18,bv (decide ((x10:Int) < (↑(t.minutes.length):Int))))] [(0,.cells 56 (cTrth t))] 10144) (by kernel_rfl) ⟨tv,tv,tv,tv,tv,tv⟩ ?_
  refine swp_cond (decide ((x10:Int) < (↑(t.minutes.length):Int))) (by kernel_rfl) (fun h11 => ?_) (fun h11 => ?_)
  ·refine swp_skip (swp_seq (swp_block (swp_seq ?_)))
   refine sR (kt:=[1,3,27]) (kh:=[0]) (q:=True/\True/\True/\(0<=(x10:Int)/\(x10:Int) < (↑(t.minutes.length):Int))/\True/\True/\True/\True) (st':=ASt.mk [(1,.ptr 0 []),(3,iv (x10:Int)),(27,bv (decide (40 < (↑((t.minutes.getD x10 []).length):Int))))] [(0,.cells 56 (cTrth t))] 10200) (by kernel_rfl) ⟨tv,tv,tv,⟨(o4 hp h9 x10 hx10 h11),(o5 hp h9 x10 hx10 h11)⟩,tv,tv,tv,tv⟩ ?_
   refine swp_cond (decide (40 < (↑((t.minutes.getD x10 []).length):Int))) (by kernel_rfl) (fun h12 => ?_) (fun h12 => ?_)
   ·refine swp_seq ?_
    refine sR (kt:=[2]) (kh:=[]) (q:=True/\True) (st':=ASt.mk [(2,bv true)] [] 10208) (by kernel_rfl) ⟨tv,tv⟩ ?_
    refine swp_ret ?_
    exact ret_q [] ((True/\True)/\(bv true=bv (longB t)/\nilN = [])/\T3) (by kernel_rfl) ⟨⟨tv,tv⟩,⟨(congrArg bv (o6 hp h9 x10 hx10 h11 h12)),rfl⟩,rfl,rfl,rfl⟩
   ·refine swp_skip ?_
    refine sR (kt:=[1,3]) (kh:=[0]) (q:=True/\inI ((x10:Int) + 1)/\True/\True) (st':=ASt.mk [(1,.ptr 0 []),(3,iv ((x10:Int) + 1))] [(0,.cells 56 (cTrth t))] 10224) (by kernel_rfl) ⟨tv,(o7 hp h9 x10 hx10 h11 h12),tv,tv⟩ ?_
    exact loop_next (Hint.ann (h49 t) [(1,AV.ptr 0 [])] [(0,OB.cells 56 (cTrth t))] 10104) x10 (ent_q hE [] [(0,.same 0)] [] [0] (((some (Src.same 0)=some (Src.same 0)/\nilP = [])/\(iv ((x10:Int) + 1)=iv (↑(x10 + 1):Int)/\nilN = [])/\True)/\((OB.cells 56 (cTrth t)=OB.cells 56 (cTrth t)/\true=true)/\True)/\T2) (by kernel_rfl) (by kernel_rfl) ⟨⟨⟨rfl,rfl⟩,⟨(congrArg iv (o8 hp h9 x10 hx10 h11 h12)),rfl⟩,tv⟩,⟨⟨rfl,rfl⟩,tv⟩,rfl,rfl⟩) (o9 hp h9 x10 hx10 h11 h12) (o10 hp h9 x10 hx10 h11 h12)
  ·refine swp_exit (swp_seq ?_)
   refine sR (kt:=[2]) (kh:=[]) (q:=True/\True) (st':=ASt.mk [(2,bv false)] [] 10152) (by kernel_rfl) ⟨tv,tv⟩ ?_
   refine swp_ret ?_
   exact ret_q [] ((True/\True)/\(bv false=bv (longB t)/\nilN = [])/\T3) (by kernel_rfl) ⟨⟨tv,tv⟩,⟨(congrArg bv (o11 hp h9 x10 hx10 h11)),rfl⟩,rfl,rfl,rfl⟩
theorem t49 (t:Trth):Triple Try.prog 49 (s49 t):=by
 apply w49
 case o1=>intro _ h; exact (long_head (by simpa using h)).symm
 case o6=>intro _ _ x hx hl h; exact (long_row (by simpa using hl) (by simpa [tmin] using h)).symm
 case o9 =>
  intro _ _ x hx hl h
  simp only [decide_eq_true_eq] at hl
  refine ⟨by omega,fun j hj => ?_⟩
  by_cases e:j=x
  ·subst e; simpa [tmin] using h
  ·exact hx.2 j (by omega)
 case o11 =>
  intro _ h x hx hl
  simp only [decide_eq_false_iff_not] at hl
  exact (not_long (by simpa using h) (fun j hj=>hx.2 j (by omega))).symm
 all_goals (first | ((repeat intro _) <;> (try simp only [v0,v1,v2,v3,v4,v5,v6,v7,v8,v9,inI,fits,Go.Sh.small] at *) <;> first | (exact rfl) | omega | exact vz | (simp_all; done) | (simp_all; omega)) | skip)
end Go.Ab
namespace Go.Sh
theorem has_iff {s:Span} {n:Int}:has s n=true ↔ s.lo<=n/\n<=s.hi:=by simp only [has,Bool.and_eq_true,decide_eq_true_eq]
structure EachF (r:Run) (t:Trth):Prop where
 okb:okRun r=true
 one:One r
 hml:t.minutes.length=r.machines.length
 hfl:t.frm.length=r.found.length
 row:∀ m,m < r.machines.length->((tmin t m).length:Int)=r.plates
 mem:t.frm ∈ fromsOf r
 at':∀ m,m < r.machines.length -> ∀ p:Nat,(p:Int) < r.plates->(spanOf r t.frm m p).lo<=tAt t m p/\tAt t m p<=(spanOf r t.frm m p).hi
theorem eachF {r:Run} {t:Trth} (hk:okRun r=true) (h:isTruth r t=true):EachF r t:=by
 have ok:=ok_of hk
 obtain ⟨⟨h1,h2⟩,h3,h4,h5⟩:=(truth_iff ok t).1 h
 have hm:=truth_froms ok h
 exact ⟨hk,one_of hk hm,h1,h2,h3,hm,h5⟩
theorem each_when {r:Run} {t:Trth} (h:EachF r t) {m p:Nat} (hm:m < r.machines.length) (hp:(p:Int) < r.plates):has (whenS r m p) (tAt t m p)=true:=by
 rw [has_iff]
 have h1:=(when_val h.one (whenIs_nat h.one.ok hm hp)).1
 simp only [Int.toNat_natCast] at h1
 have h2:=(rhull_spec (fun l=>spanOf r l m p) h.one.pos).1 _ h.mem
 have h3:=h.at' m hm p hp
 rw [h1]
 try simp only at h2
 omega
theorem tAt_b {r:Run} {t:Trth} (h:EachF r t) {m p:Nat} (hm:m < r.machines.length) (hp:(p:Int) < r.plates):0<=tAt t m p/\tAt t m p<=30:=by
 have h1:=h.at' m hm p hp
 have h2:=froms_hb h.one.ok h.mem hm hp
 have h3:=h.one.ok.last
 omega
def oldN (r:Run) (t:Trth) (p n:Nat):Int:=(List.range n).foldl (fun s m=>s + (mach r m).rate * tAt t m p) 0
theorem oldN_succ (r:Run) (t:Trth) (p n:Nat):oldN r t p (n + 1)=oldN r t p n + (mach r n).rate * tAt t n p:=Go.Ab.foldl_range_succ _ _ _
theorem rate30 {a b:Int} (h:0<=a/\a<=9) (h2:0<=b/\b<=30):0<=a * b/\a * b<=270 :=
 ⟨Int.mul_nonneg h.1 h2.1,by have:=Int.mul_le_mul h.2 h2.2 h2.1 (by omega:(0:Int)<=9); omega⟩
theorem oldN_b {r:Run} {t:Trth} (h:EachF r t) {p:Nat} (hp:(p:Int) < r.plates):∀ n,n<=r.machines.length->0<=oldN r t p n/\oldN r t p n<=270 * n:=by
 intro n
 induction n with
 | zero=>intro _; exact ⟨Int.le_refl _,Int.le_refl 0⟩
 | succ n ih =>
  intro hn
  have h1:=ih (by omega)
  have h2:=rate30 (h.one.ok.mach n (by omega)).2 (tAt_b h (m:=n) (by omega) hp)
  rw [oldN_succ]; omega
theorem oldN_in {r:Run} {t:Trth} (h:EachF r t) {p:Nat} (hp:(p:Int) < r.plates):∀ n,n<=r.machines.length->(sumTo r (fun m=>spanOf r t.frm m p) n).lo<=oldN r t p n/\oldN r t p n<=(sumTo r (fun m=>spanOf r t.frm m p) n).hi:=by
 intro n
 induction n with
 | zero=>intro _; exact ⟨Int.le_refl _,Int.le_refl _⟩
 | succ n ih =>
  intro hn
  have h1:=ih (by omega)
  have h2:=(h.one.ok.mach n (by omega)).2
  have h3:=h.at' n (by omega) p hp
  have a1:=Int.mul_le_mul_of_nonneg_left h3.1 h2.1
  have a2:=Int.mul_le_mul_of_nonneg_left h3.2 h2.1
  rw [oldN_succ,sumTo_succ]
  simp only
  omega
theorem each_old {r:Run} {t:Trth} (h:EachF r t) {p:Nat} (hp:(p:Int) < r.plates):has (oldS r p) (oldN r t p r.machines.length)=true:=by
 rw [has_iff,old_val h.one hp]
 have h2:=(rhull_spec (oldL r p) h.one.pos).1 _ h.mem
 have h3:=oldN_in h hp _ (Nat.le_refl _)
 unfold oldL at h2
 unfold oldL
 omega
def firstN (t:Trth) (m n:Nat):Int:=(List.range n).foldl (fun s p=>min s (tAt t m p)) (tAt t m 0)
def lastN (t:Trth) (m n:Nat):Int:=(List.range n).foldl (fun s p=>max s (tAt t m p)) (tAt t m 0)
theorem firstN_succ (t:Trth) (m n:Nat):firstN t m (n + 1)=min (firstN t m n) (tAt t m n):=Go.Ab.foldl_range_succ _ _ _
theorem lastN_succ (t:Trth) (m n:Nat):lastN t m (n + 1)=max (lastN t m n) (tAt t m n):=Go.Ab.foldl_range_succ _ _ _
theorem first_b {r:Run} {t:Trth} (h:EachF r t) {m:Nat} (hm:m < r.machines.length):∀ n:Nat,(n:Int)<=r.plates->0<=firstN t m n/\firstN t m n<=30/\0<=lastN t m n/\lastN t m n<=30:=by
 intro n
 have hpl:=h.one.ok.plates
 induction n with
 | zero=>intro _; have:=tAt_b h hm (p:=0) (by omega); exact ⟨this.1,this.2,this.1,this.2⟩
 | succ n ih =>
  intro hn
  have h1:=ih (by omega)
  have h2:=tAt_b h hm (p:=n) (by omega)
  rw [firstN_succ,lastN_succ]; omega
theorem gap_in {r:Run} {t:Trth} (h:EachF r t) {m:Nat} (hm:m < r.machines.length):(minutes (spanOf r t.frm m) r.plates.toNat).lo<=lastN t m r.plates.toNat - firstN t m r.plates.toNat/\lastN t m r.plates.toNat - firstN t m r.plates.toNat<=(minutes (spanOf r t.frm m) r.plates.toNat).hi:=by
 have hpl:=h.one.ok.plates
 have s0:=h.at' m hm 0 (by omega)
 have:r.plates.toNat=1 ∨ r.plates.toNat=2 ∨ r.plates.toNat=3:=by omega
 rcases this with e | e | e <;> rw [e]
 ·refine ⟨?_,?_⟩ <;> (simp only [firstN,lastN,minutes,minTo,minIn,List.range_succ,List.range_zero,List.nil_append,List.foldl_cons,List.foldl_nil,if_true]; omega)
 ·have s1:=h.at' m hm 1 (by omega)
  refine ⟨?_,?_⟩ <;> (simp only [firstN,lastN,minutes,minTo,minIn,List.range_succ,List.range_zero,List.nil_append,List.cons_append,List.foldl_cons,List.foldl_nil,if_true]; simp only [show ¬ (0:Nat)=1 by omega,show ¬ (1:Nat)=0 by omega,if_false]; omega)
 ·have s1:=h.at' m hm 1 (by omega)
  have s2:=h.at' m hm 2 (by omega)
  refine ⟨?_,?_⟩ <;> (simp only [firstN,lastN,minutes,minTo,minIn,List.range_succ,List.range_zero,List.nil_append,List.cons_append,List.foldl_cons,List.foldl_nil,if_true]; simp only [show ¬ (0:Nat)=1 by omega,show ¬ (1:Nat)=0 by omega,show ¬ (0:Nat)=2 by omega,show ¬ (2:Nat)=0 by omega,show ¬ (1:Nat)=2 by omega,show ¬ (2:Nat)=1 by omega,if_false]; omega)
def mixN (r:Run) (t:Trth) (n:Nat):Int:=(List.range n).foldl (fun s m=>s + (mach r m).rate * (lastN t m r.plates.toNat - firstN t m r.plates.toNat)) 0
theorem mixN_succ (r:Run) (t:Trth) (n:Nat):mixN r t (n + 1)=mixN r t n + (mach r n).rate * (lastN t n r.plates.toNat - firstN t n r.plates.toNat):=Go.Ab.foldl_range_succ _ _ _
theorem gap_b {r:Run} {t:Trth} (h:EachF r t) {m:Nat} (hm:m < r.machines.length):0<=lastN t m r.plates.toNat - firstN t m r.plates.toNat/\lastN t m r.plates.toNat - firstN t m r.plates.toNat<=30:=by
 have hpl:=h.one.ok.plates
 have h1:=first_b h hm r.plates.toNat (by omega)
 have h2:=(gap_in h hm).1
 have h3:=minutes_nn (spanOf r t.frm m) (n:=r.plates.toNat) (by omega)
 omega
theorem mixN_b {r:Run} {t:Trth} (h:EachF r t):∀ n,n<=r.machines.length->0<=mixN r t n/\mixN r t n<=270 * n:=by
 intro n
 induction n with
 | zero=>intro _; exact ⟨Int.le_refl _,Int.le_refl 0⟩
 | succ n ih =>
  intro hn
  have h1:=ih (by omega)
  have h2:=rate30 (h.one.ok.mach n (by omega)).2 (gap_b h (m:=n) (by omega))
  rw [mixN_succ]; omega
theorem mixN_in {r:Run} {t:Trth} (h:EachF r t):∀ n,n<=r.machines.length->(sumTo r (fun m=>minutes (spanOf r t.frm m) r.plates.toNat) n).lo<=mixN r t n/\mixN r t n<=(sumTo r (fun m=>minutes (spanOf r t.frm m) r.plates.toNat) n).hi:=by
 intro n
 induction n with
 | zero=>intro _; exact ⟨Int.le_refl _,Int.le_refl _⟩
 | succ n ih =>
  intro hn
  have h1:=ih (by omega)
  have h2:=(h.one.ok.mach n (by omega)).2
  have h3:=gap_in h (m:=n) (by omega)
  have a1:=Int.mul_le_mul_of_nonneg_left h3.1 h2.1
  have a2:=Int.mul_le_mul_of_nonneg_left h3.2 h2.1
  rw [mixN_succ,sumTo_succ]
  simp only
  omega
theorem each_mixes {r:Run} {t:Trth} (h:EachF r t):has (mixesS r) (mixN r t r.machines.length)=true:=by
 rw [has_iff,mixes_val h.one]
 have h2:=(rhull_spec (mixL r) h.one.pos).1 _ h.mem
 have h3:=mixN_in h _ (Nat.le_refl _)
 unfold mixL at h2
 unfold mixL
 omega
theorem each_mixed {r:Run} {t:Trth} (h:EachF r t) {m:Nat} (hm:m < r.machines.length):(mixedS r m=1->firstN t m r.plates.toNat ≠ lastN t m r.plates.toNat)/\(mixedS r m=2 -> ¬ firstN t m r.plates.toNat < lastN t m r.plates.toNat):=by
 have h1:=gap_in h hm
 rw [mixed_val h.one hm]
 constructor
 ·intro e
  split at e
  ·rename_i c; have:=c _ h.mem; omega
  ·split at e <;> omega
 ·intro e
  split at e
  ·omega
  ·split at e
   ·rename_i c; have:=c _ h.mem; omega
   ·omega
theorem each_few {r:Run} {t:Trth} (h:EachF r t):fewP r<=usedTo t.frm r.machines.length:=(few_spec h.one).1 _ h.mem
theorem each_where {r:Run} {t:Trth} (h:EachF r t) {i:Nat} (hi:i < r.found.length):isIn (whereS r i) (t.frm.getD i 0)=true:=isIn_mem.2 ((mem_whereS h.one hi).2 ⟨_,h.mem,rfl⟩)
theorem each_same {r:Run} {t:Trth} (h:EachF r t) {i k:Nat} (hi:i < r.found.length) (hk:k < r.found.length):openE r (sameIs r i k)=0/\within (sameS r i k) 1 3=true/\(sameS r i k=1->t.frm.getD i 0=t.frm.getD k 0)/\(sameS r i k=2->t.frm.getD i 0 ≠ t.frm.getD k 0):=by
 have his:sameIs r i k=true:=by
  simp only [sameIs,isFound_nat hi,isFound_nat hk,Bool.and_self]
 refine ⟨one_open h.one his,?_⟩
 rw [same_eq,sameR,if_pos (h.one.zero _ his),cntL,List.take_length]
 simp only [Int.toNat_natCast]
 have hle:=List.countP_le_length (p:=smL i k) (l:=fromsOf r)
 have hp:=h.one.pos
 unfold knownOf
 refine ⟨?_,fun e => ?_,fun e => ?_⟩
 ·rw [within_iff]; split
  ·omega
  ·split <;> omega
 ·split at e
  ·omega
  ·split at e
   ·rename_i c
    have:=List.countP_eq_length.1 (show (fromsOf r).countP (smL i k)=(fromsOf r).length by omega) _ h.mem
    simpa [smL] using this
   ·omega
 ·split at e
  ·rename_i c
   have:=List.countP_eq_zero.1 (show (fromsOf r).countP (smL i k)=0 by omega) _ h.mem
   simpa [smL] using this
  ·split at e <;> omega
theorem each_read {r:Run} {t:Trth} (h:EachF r t) {i p:Nat} (hi:i < r.found.length) (hp:(p:Int) < r.plates):openE r (readIs r i p)=0/\within (readS r i p) 1 3=true/\(readS r i p=1->tAt t (t.frm.getD i 0).toNat p<=(fnd r i).minute)/\(readS r i p=2 -> ¬ tAt t (t.frm.getD i 0).toNat p<=(fnd r i).minute):=by
 have his:readIs r i p=true:=by
  simp only [readIs,isFound_nat hi,isPlate_nat h.one.ok hp,Bool.and_self]
 refine ⟨one_open h.one his,?_⟩
 have hin:=froms_in h.one.ok h.mem hi
 have hat:=h.at' (t.frm.getD i 0).toNat (by omega) p hp
 rw [read_eq,readR,if_pos (h.one.zero _ his),oldTo,newTo,List.take_length]
 simp only [Int.toNat_natCast]
 refine ⟨?_,fun e => ?_,fun e => ?_⟩
 ·rw [within_iff]; split
  ·split <;> omega
  ·omega
 ·split at e
  ·split at e <;> omega
  ·rename_i c
   rw [Bool.not_eq_true,List.any_eq_false] at c
   have:=c _ h.mem
   have h2:¬ (rdL r i p t.frm).hi > (fnd r i).minute:=fun hh=>this (decide_eq_true hh)
   unfold rdL at h2
   omega
 ·split at e
  ·split at e
   ·omega
   ·rename_i c
    rw [Bool.not_eq_true,List.any_eq_false] at c
    have:=c _ h.mem
    have h2:¬ (rdL r i p t.frm).lo<=(fnd r i).minute:=fun hh=>this (decide_eq_true hh)
    unfold rdL at h2
    omega
  ·omega
end Go.Sh
namespace Go.Sh
end Go.Sh
namespace Go.Sh
theorem rec_eq {α:Type} {i j:Nat} {a:¬ i=j->α} {b:i=j->α} {c:α} (h1:∀ h,a h=c) (h2:∀ h,b h=c):(Decidable.rec a b (instDecidableEqNat i j):α)=c:=by
 cases instDecidableEqNat i j with
 | isTrue h=>exact h2 h
 | isFalse h=>exact h1 h
def end0 (s:Span):Int:=s.lo - 1
end Go.Sh
namespace Go.Ab
open Go Go.RowKit Go.Proofs Go.Sh Go.En
def h7 (r:Run) (m p:Int):Hint:={ X:=Int,M:=fun n=>[(12,iv n)],I:=fun n=>end0 (whenS r m p)<=n/\n<=(whenS r m p).hi + 2,mu:=fun n=>((whenS r m p).hi + 2 - n).toNat,x0:=end0 (whenS r m p),nx:=fun n=>n + 1 }
end Go.Ab
namespace Go.Sh
def oldAt (r:Run) (t:Trth) (m p q:Nat):Int:=oldN r t q (if q < p then m + 1 else m)
end Go.Sh
namespace Go.Ab
open Go Go.RowKit Go.Proofs Go.Sh Go.En
def s12 (r:Run) (t:Trth):CallSpec:={ args:=[vRun r,vTrth t],res:=bv true,pre:=fits r/\tfits t }
def h12a (r:Run) (t:Trth):Hint:={ X:=Nat,M:=fun m=>[(7,iv (mixN r t m)),(8,iv (usedTo t.frm m)),(10,iv m),(9,.vec 5000)],H:=fun m=>[(5000,.vec 3 1 r.plates.toNat (fun p=>[iv (oldN r t p m)]))],I:=fun m=>m<=r.machines.length,mu:=fun m=>r.machines.length - m,x0:=(0:Nat),nx:=fun m=>m + 1 }
def h12b (r:Run) (t:Trth) (m:Nat):Hint:={ X:=Nat,M:=fun p=>[(11,iv (firstN t m p)),(12,iv (lastN t m p)),(13,iv p),(9,.vec 5001)],H:=fun p=>[(5001,.vec 3 1 r.plates.toNat (fun q=>[iv (oldAt r t m p q)]))],I:=fun p=>p<=r.plates.toNat,mu:=fun p=>r.plates.toNat - p,x0:=(0:Nat),nx:=fun p=>p + 1 }
def h12c (r:Run) (t:Trth):Hint:={ X:=Nat,M:=fun p=>[(15,iv p)],I:=fun p=>p<=r.plates.toNat,mu:=fun p=>r.plates.toNat - p,x0:=(0:Nat),nx:=fun p=>p + 1 }
def h12d (r:Run) (t:Trth):Hint:={ X:=Nat,M:=fun i=>[(16,iv i)],I:=fun i=>i<=r.found.length,mu:=fun i=>r.found.length - i,x0:=(0:Nat),nx:=fun i=>i + 1 }
def h12e (r:Run) (t:Trth) (i:Nat):Hint:={ X:=Nat,M:=fun k=>[(17,iv k)],I:=fun k=>k<=r.found.length,mu:=fun k=>r.found.length - k,x0:=(0:Nat),nx:=fun k=>k + 1 }
def h12f (r:Run) (t:Trth) (i:Nat):Hint:={ X:=Nat,M:=fun p=>[(21,iv p)],I:=fun p=>p<=r.plates.toNat,mu:=fun p=>r.plates.toNat - p,x0:=(0:Nat),nx:=fun p=>p + 1 }
end Go.Ab
