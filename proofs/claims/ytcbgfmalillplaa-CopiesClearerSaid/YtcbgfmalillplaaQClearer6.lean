/- CopiesClearer returns true for every run and a change of it, and leaves what it was handed as it was. No condition. -/
import Derived.Test.YtcbgfmalillplaaQClearer5
import Derived.Deep.Slices
import Derived.ChangeShapes
import Derived.Carry
import Derived.OpenShut
import Derived.SizedLaws
import Derived.Test.YtcbgfmalillplaaRows
import Derived.ProofKit
import Derived.JoinedOf
set_option linter.all false
set_option linter.deprecated false
namespace Go.Ab
open Go Go.RowKit Go.Proofs Go.Sh Go.En
abbrev q47_1 (r:Run) (C:Prop):Prop:=fits r/\okRun r=true/\isOne r=true->C
abbrev q47_2 (r:Run) (C:Nat->Prop):Prop:=q47_1 r (∀ (x0:Nat),x0<=r.machines.length->decide ((x0:Int) < (↑(r.machines.length):Int))=true->C x0)
abbrev q47_3 (r:Run) (C:Nat->Nat->Prop):Prop:=q47_2 r fun x0 => ∀ (x2:Nat),x2<=r.plates.toNat->decide ((x2:Int) < r.plates)=true->C x0 x2
abbrev q47_4 (r:Run) (C:Nat->Nat->Prop):Prop:=q47_3 r fun x0 x2=>(!!decide (openE r (whenIs r (x0:Int) (x2:Int))=0))->C x0 x2
abbrev q47_5 (r:Run) (C:Nat->Nat->Prop):Prop:=q47_2 r fun x0 => ∀ (x2:Nat),x2<=r.plates.toNat->decide ((x2:Int) < r.plates)=false->C x0 x2
abbrev q47_6 (r:Run) (C:Nat->Prop):Prop:=q47_1 r (∀ (x0:Nat),x0<=r.machines.length->decide ((x0:Int) < (↑(r.machines.length):Int))=false->C x0)
abbrev q47_7 (r:Run) (C:Nat->Nat->Prop):Prop:=q47_6 r fun x0 => ∀ (x50:Nat),x50<=r.plates.toNat->decide ((x50:Int) < r.plates)=true->C x0 x50
abbrev q47_8 (r:Run) (C:Nat->Nat->Prop):Prop:=q47_6 r fun x0 => ∀ (x50:Nat),x50<=r.plates.toNat->decide ((x50:Int) < r.plates)=false->C x0 x50
abbrev q47_9 (r:Run) (C:Nat->Nat->Nat->Prop):Prop:=q47_8 r fun x0 x50 => ∀ (x70:Nat),x70<=r.found.length->decide ((x70:Int) < (↑(r.found.length):Int))=true->C x0 x50 x70
abbrev q47_10 (r:Run) (C:Nat->Nat->Nat->Prop):Prop:=q47_8 r fun x0 x50 => ∀ (x70:Nat),x70<=r.found.length->decide ((x70:Int) < (↑(r.found.length):Int))=false->C x0 x50 x70
theorem w47 (r:Run)
 (o0:q47_1 r (0=(↑0:Int)))
 (o1:q47_1 r (0 * r.plates.toNat=0))
 (o2:q47_1 r (0<=r.machines.length))
 (o3:q47_2 r fun x0=>0=(↑0:Int))
 (o4:q47_2 r fun x0=>x0 * r.plates.toNat=x0 * r.plates.toNat + 0)
 (o5:q47_2 r fun x0=>0<=r.plates.toNat)
 (o6:q47_4 r fun x0 x2=>0<=(x0:Int))
 (o7:q47_4 r fun x0 x2=>(x0:Int) < (↑(r.machines.length):Int))
 (o8:q47_4 r fun x0 x2=>0<=(x2:Int))
 (o9:q47_4 r fun x0 x2=>(x2:Int) < (↑((mach r x0).changes.length):Int))
 (o10:q47_3 r fun x0 x2=>(!decide (openE r (whenIs r (x0:Int) (x2:Int))=0))=false->(!!decide (openE r (whenIs r (x0:Int) (x2:Int))=0))=true)
 (o11:q47_3 r fun x0 x2=>(bif !decide (openE r (whenIs r (x0:Int) (x2:Int))=0) then true else !inside (whenS r (x0:Int) (x2:Int)) ((mach r x0).changes.getD x2 default))=false)
 (o12:q47_3 r fun x0 x2=>x0 * r.plates.toNat + x2 + 1<=65536)
 (o13:q47_3 r fun x0 x2=>inI ((x2:Int) + 1))
 (o14:q47_3 r fun x0 x2=>(x2:Int) + 1=(↑(x2 + 1):Int))
 (o15:q47_3 r fun x0 x2=>x0 * r.plates.toNat + x2 + 1=x0 * r.plates.toNat + (x2 + 1))
 (o16:q47_3 r fun x0 x2 => ∀ (i35:Nat),i35 < x0 * r.plates.toNat + x2 + 1->catF (x0 * r.plates.toNat + x2) (fun (k:Nat)=>cSpan (wAt r k)) (fun (j:Nat)=>List.getD [[iv (whenS r (x0:Int) (x2:Int)).lo,iv (whenS r (x0:Int) (x2:Int)).hi]] j (TI.za ti37)) i35=cSpan (wAt r i35))
 (o17:q47_3 r fun x0 x2=>x2 + 1<=r.plates.toNat)
 (o18:q47_3 r fun x0 x2=>r.plates.toNat - (x2 + 1) < r.plates.toNat - x2)
 (o19:q47_5 r fun x0 x2=>(!decide (openE r (isMachine r (x0:Int))=0))=false->(!!decide (openE r (isMachine r (x0:Int))=0))=true)
 (o20:q47_5 r fun x0 x2=>(bif !decide (openE r (isMachine r (x0:Int))=0) then true else !within (mixedS r (x0:Int)) 1 3)=false)
 (o21:q47_5 r fun x0 x2=>x0 + 1<=65536)
 (o22:q47_5 r fun x0 x2=>inI ((x0:Int) + 1))
 (o23:q47_5 r fun x0 x2=>(x0:Int) + 1=(↑(x0 + 1):Int))
 (o24:q47_5 r fun x0 x2=>x0 * r.plates.toNat + x2=(x0 + 1) * r.plates.toNat)
 (o25:q47_5 r fun x0 x2 => ∀ (i48:Nat),i48 < x0 + 1->catF x0 (fun (k:Nat)=>[iv (mixedS r (k:Int))]) (fun (j:Nat)=>List.getD [[iv (mixedS r (x0:Int))]] j (TI.za ti3)) i48 = [iv (mixedS r (i48:Int))])
 (o26:q47_5 r fun x0 x2=>x0 + 1<=r.machines.length)
 (o27:q47_5 r fun x0 x2=>r.machines.length - (x0 + 1) < r.machines.length - x0)
 (o28:q47_6 r fun x0=>0=(↑0:Int))
 (o29:q47_6 r fun x0=>x0 * r.plates.toNat=r.machines.length * r.plates.toNat)
 (o30:q47_6 r fun x0=>x0=r.machines.length)
 (o31:q47_6 r fun x0=>0<=r.plates.toNat)
 (o32:q47_7 r fun x0 x50=>(!decide (openE r (isPlate r (x50:Int))=0))=false->(!!decide (openE r (isPlate r (x50:Int))=0))=true)
 (o33:q47_7 r fun x0 x50=>(bif !decide (openE r (isPlate r (x50:Int))=0) then true else !inside (oldS r (x50:Int)) (Span.mk 0 810))=false)
 (o34:q47_7 r fun x0 x50=>x50 + 1<=65536)
 (o35:q47_7 r fun x0 x50=>inI ((x50:Int) + 1))
 (o36:q47_7 r fun x0 x50=>(x50:Int) + 1=(↑(x50 + 1):Int))
 (o37:q47_7 r fun x0 x50 => ∀ (i68:Nat),i68 < x50 + 1->catF x50 (fun (k:Nat)=>cSpan (oldS r (k:Int))) (fun (j:Nat)=>List.getD [[iv (oldS r (x50:Int)).lo,iv (oldS r (x50:Int)).hi]] j (TI.za ti37)) i68=cSpan (oldS r (i68:Int)))
 (o38:q47_7 r fun x0 x50=>x50 + 1<=r.plates.toNat)
 (o39:q47_7 r fun x0 x50=>r.plates.toNat - (x50 + 1) < r.plates.toNat - x50)
 (o40:q47_8 r fun x0 x50=>0=(↑0:Int))
 (o41:q47_8 r fun x0 x50=>x50=r.plates.toNat)
 (o42:q47_8 r fun x0 x50=>0<=r.found.length)
 (o43:q47_9 r fun x0 x50 x70=>(!decide (openE r (isFound r (x70:Int))=0))=false->(!!decide (openE r (isFound r (x70:Int))=0))=true)
 (o44:q47_9 r fun x0 x50 x70=>(!bif !decide (openE r (isFound r (x70:Int))=0) then true else decide ((↑((whereS r (x70:Int)).length):Int)=0))=true->inI ((↑(r.machines.length):Int) - 1))
 (o45:q47_9 r fun x0 x50 x70=>(!bif !decide (openE r (isFound r (x70:Int))=0) then true else decide ((↑((whereS r (x70:Int)).length):Int)=0))=true->(whereS r (x70:Int)).length<=1125899906842624)
 (o46:q47_9 r fun x0 x50 x70=>(bif !decide (openE r (isFound r (x70:Int))=0) then true else decide ((↑((whereS r (x70:Int)).length):Int)=0))=false->(!bif !decide (openE r (isFound r (x70:Int))=0) then true else decide ((↑((whereS r (x70:Int)).length):Int)=0))=true)
 (o47:q47_9 r fun x0 x50 x70=>(bif bif !decide (openE r (isFound r (x70:Int))=0) then true else decide ((↑((whereS r (x70:Int)).length):Int)=0) then true else !rising (whereS r (x70:Int)) 0 ((↑(r.machines.length):Int) - 1))=false)
 (o48:q47_9 r fun x0 x50 x70=>x70 + 1<=65536)
 (o49:q47_9 r fun x0 x50 x70=>inI ((x70:Int) + 1))
 (o50:q47_9 r fun x0 x50 x70=>(x70:Int) + 1=(↑(x70 + 1):Int))
 (o51:q47_9 r fun x0 x50 x70 => ∀ (i104:Nat),i104 < x70 + 1->catF x70 (fun (k:Nat)=>[aInts (whereS r (k:Int))]) (fun (j:Nat)=>List.getD [[AV.sl 1 (whereS r (x70:Int)).length fun (i:Nat)=>[iv ((whereS r (x70:Int)).getD i 0)]]] j (TI.za ti30)) i104 = [aInts (whereS r (i104:Int))])
 (o52:q47_9 r fun x0 x50 x70=>x70 + 1<=r.found.length)
 (o53:q47_9 r fun x0 x50 x70=>r.found.length - (x70 + 1) < r.found.length - x70)
 (o54:q47_10 r fun x0 x50 x70=>r.machines.length * r.plates.toNat=(Tld.when (toldOf r)).length)
 (o55:q47_10 r fun x0 x50 x70 => ∀ (i138:Nat),i138 < (Tld.when (toldOf r)).length->cSpan (wAt r i138) = [iv ((Tld.when (toldOf r)).getD i138 default).lo,iv ((Tld.when (toldOf r)).getD i138 default).hi])
 (o56:q47_10 r fun x0 x50 x70=>r.plates.toNat=(Tld.old (toldOf r)).length)
 (o57:q47_10 r fun x0 x50 x70 => ∀ (i140:Nat),i140 < (Tld.old (toldOf r)).length->cSpan (oldS r (i140:Int)) = [iv ((Tld.old (toldOf r)).getD i140 default).lo,iv ((Tld.old (toldOf r)).getD i140 default).hi])
 (o58:q47_10 r fun x0 x50 x70=>x70=(Tld.whr (toldOf r)).length)
 (o59:q47_10 r fun x0 x50 x70 => ∀ (i142:Nat),i142 < (Tld.whr (toldOf r)).length -> [aInts (whereS r (i142:Int))] = [aInts ((Tld.whr (toldOf r)).getD i142 [])])
 (o60:q47_10 r fun x0 x50 x70=>r.machines.length=(Tld.mixed (toldOf r)).length)
 (o61:q47_10 r fun x0 x50 x70 => ∀ (i144:Nat),i144 < (Tld.mixed (toldOf r)).length -> [iv (mixedS r (i144:Int))] = [iv ((Tld.mixed (toldOf r)).getD i144 0)])
 (o62:q47_10 r fun x0 x50 x70=>(mixesS r).lo=(Tld.mixes (toldOf r)).lo)
 (o63:q47_10 r fun x0 x50 x70=>(mixesS r).hi=(Tld.mixes (toldOf r)).hi)
 (o64:q47_10 r fun x0 x50 x70=>fewP r=Tld.fewest (toldOf r))
 (o65:q47_10 r fun x0 x50 x70=>(bif bif bif bif decide (openE r true=0) then decide (openE r true=0) else false then inside (mixesS r) (Span.mk 0 810) else false then decide (0<=fewP r) else false then decide (fewP r<=(↑(r.machines.length):Int)) else false)=true) :
  Triple Try.prog 47 (s47 r):=by
 refine triple_of Try.func47 rfl Try.call47 T0_ok _ rfl rfl rfl rfl (Nat.le_of_ble_eq_true (by kernel_rfl)) (fun _ _ _ _ h=>h) ?_
 intro hp C hC _ hE
 obtain ⟨P,w0,E0,av,hA⟩:=C
 subst hC
 refine swp_seq ?_
 refine sR (kt:=[1,2]) (kh:=[0,8]) (q:=True/\True/\True/\True) (st':=ASt.mk [(1,.ptr 0 []),(2,.ptr 8 [])] [(0,.cells 25 (cRun r)),(8,.cells 62 [nilv,nilv,nilv,nilv,iv 0,iv 0,iv 0])] 24) (by kernel_rfl) ⟨tv,tv,tv,tv⟩ ?_
 refine swp_seq ?_
 refine sR (kt:=[1,2,4]) (kh:=[0,8,24]) (q:=True/\True) (st':=ASt.mk [(1,.ptr 0 []),(2,.ptr 8 []),(4,.ptr 24 [])] [(0,.cells 25 (cRun r)),(8,.cells 62 [nilv,nilv,nilv,nilv,iv 0,iv 0,iv 0]),(24,.cells 62 [nilv,nilv,nilv,nilv,iv 0,iv 0,iv 0])] 32) (by kernel_rfl) ⟨tv,tv⟩ ?_
 refine swp_seq (swp_seq ?_)
 refine sR (kt:=[1,2,4,5]) (kh:=[0,8,24]) (q:=True/\True) (st':=ASt.mk [(1,.ptr 0 []),(2,.ptr 8 []),(4,.ptr 24 []),(5,iv 0)] [(0,.cells 25 (cRun r)),(8,.cells 62 [nilv,nilv,nilv,nilv,iv 0,iv 0,iv 0]),(24,.cells 62 [nilv,nilv,nilv,nilv,iv 0,iv 0,iv 0])] 40) (by kernel_rfl) ⟨tv,tv⟩ ?_
 refine swp_block ?_
 refine swp_loopA (Hint.ann (h47a r) [(1,AV.ptr 0 []),(2,AV.ptr 8 [])] [(0,OB.cells 25 (cRun r)),(8,OB.cells 62 [nilv,nilv,nilv,nilv,iv 0,iv 0,iv 0])] 10040) (ent_q hE [] [(0,.same 0),(8,.same 8),(5000,.same 24),(5001,.nil),(5002,.nil)] [] [0,8] (((some (Src.same 0)=some (Src.same 0)/\nilP = [])/\(some (Src.same 8)=some (Src.same 8)/\nilP = [])/\(iv 0=iv (↑0:Int)/\nilN = [])/\(some (Src.same 24)=some (Src.same 24)/\nilP = [])/\True)/\((OB.cells 25 (cRun r)=OB.cells 25 (cRun r)/\true=true)/\(OB.cells 62 [nilv,nilv,nilv,nilv,iv 0,iv 0,iv 0]=OB.cells 62 [nilv,nilv,nilv,nilv,iv 0,iv 0,iv 0]/\true=true)/\(62=62/\(some Src.nil=some Src.nil/\(nilv=nilv/\nilN = [])/\(nilv=nilv/\nilN = [])/\some Src.nil=some Src.nil/\(iv 0=iv 0/\nilN = [])/\(iv 0=iv 0/\nilN = [])/\(iv 0=iv 0/\nilN = [])/\True)/\true=true)/\0 * r.plates.toNat=0/\0=0/\True)/\T2) (by kernel_rfl) (by kernel_rfl) ⟨⟨⟨rfl,rfl⟩,⟨rfl,rfl⟩,⟨(congrArg iv (o0 hp)),rfl⟩,⟨rfl,rfl⟩,tv⟩,⟨⟨rfl,rfl⟩,⟨rfl,rfl⟩,⟨rfl,⟨rfl,⟨rfl,rfl⟩,⟨rfl,rfl⟩,rfl,⟨rfl,rfl⟩,⟨rfl,rfl⟩,⟨rfl,rfl⟩,tv⟩,rfl⟩,(o1 hp),rfl,tv⟩,rfl,rfl⟩) (o2 hp) (fun (x0:Nat) hx0 => ?_)
 refine swp_seq (swp_seq ?_)
 refine sR (kt:=[1,2,5,4,25]) (kh:=[0,8,5000,5001,5002]) (q:=True/\True/\True/\True/\True/\True) (st':=ASt.mk [(1,.ptr 0 []),(2,.ptr 8 []),(5,iv (x0:Int)),(4,.ptr 5000 []),(25,bv (decide ((x0:Int) < (↑(r.machines.length):Int))))] [(0,.cells 25 (cRun r)),(8,.cells 62 [nilv,nilv,nilv,nilv,iv 0,iv 0,iv 0]),(5000,.cells 62 [.vec 5001,nilv,nilv,.vec 5002,iv 0,iv 0,iv 0]),(5001,.vec 37 2 (x0 * r.plates.toNat) fun (k:Nat)=>cSpan (wAt r k)),(5002,.vec 3 1 x0 fun (k:Nat)=>[iv (mixedS r (k:Int))])] 10080) (by kernel_rfl) ⟨tv,tv,tv,tv,tv,tv⟩ ?_
 refine swp_cond (decide ((x0:Int) < (↑(r.machines.length):Int))) (by kernel_rfl) (fun h1 => ?_) (fun h1 => ?_)
 ·refine swp_skip (swp_seq (swp_block (swp_seq (swp_seq ?_))))
  refine sR (kt:=[1,2,5,4,6]) (kh:=[0,8,5000,5001,5002]) (q:=True/\True) (st':=ASt.mk [(1,.ptr 0 []),(2,.ptr 8 []),(5,iv (x0:Int)),(4,.ptr 5000 []),(6,iv 0)] [(0,.cells 25 (cRun r)),(8,.cells 62 [nilv,nilv,nilv,nilv,iv 0,iv 0,iv 0]),(5000,.cells 62 [.vec 5001,nilv,nilv,.vec 5002,iv 0,iv 0,iv 0]),(5001,.vec 37 2 (x0 * r.plates.toNat) fun (k:Nat)=>cSpan (wAt r k)),(5002,.vec 3 1 x0 fun (k:Nat)=>[iv (mixedS r (k:Int))])] 10088) (by kernel_rfl) ⟨tv,tv⟩ ?_
  refine swp_block ?_
  refine swp_loopA (Hint.ann (h47b r x0) [(1,AV.ptr 0 []),(2,AV.ptr 8 []),(5,iv (x0:Int))] [(0,OB.cells 25 (cRun r)),(8,OB.cells 62 [nilv,nilv,nilv,nilv,iv 0,iv 0,iv 0])] 20088) (ent_q hE [] [(0,.same 0),(8,.same 8),(5003,.same 5000),(5004,.same 5001),(5005,.same 5002)] [5] [0,8] (((some (Src.same 0)=some (Src.same 0)/\nilP = [])/\(some (Src.same 8)=some (Src.same 8)/\nilP = [])/\(iv (x0:Int)=iv (x0:Int)/\true=true)/\(iv 0=iv (↑0:Int)/\nilN = [])/\(some (Src.same 5000)=some (Src.same 5000)/\nilP = [])/\True)/\((OB.cells 25 (cRun r)=OB.cells 25 (cRun r)/\true=true)/\(OB.cells 62 [nilv,nilv,nilv,nilv,iv 0,iv 0,iv 0]=OB.cells 62 [nilv,nilv,nilv,nilv,iv 0,iv 0,iv 0]/\true=true)/\(62=62/\(some (Src.same 5001)=some (Src.same 5001)/\(nilv=nilv/\nilN = [])/\(nilv=nilv/\nilN = [])/\some (Src.same 5002)=some (Src.same 5002)/\(iv 0=iv 0/\nilN = [])/\(iv 0=iv 0/\nilN = [])/\(iv 0=iv 0/\nilN = [])/\True)/\true=true)/\(37=37/\2=2/\x0 * r.plates.toNat=x0 * r.plates.toNat + 0 /\ ∀ (i3:Nat),i3 < x0 * r.plates.toNat->cSpan (wAt r i3)=cSpan (wAt r i3))/\(3=3/\1=1/\x0=x0 /\ ∀ (i5:Nat),i5 < x0 -> [iv (mixedS r (i5:Int))] = [iv (mixedS r (i5:Int))])/\True)/\T2) (by kernel_rfl) (by kernel_rfl) ⟨⟨⟨rfl,rfl⟩,⟨rfl,rfl⟩,⟨rfl,rfl⟩,⟨(congrArg iv (o3 hp x0 hx0 h1)),rfl⟩,⟨rfl,rfl⟩,tv⟩,⟨⟨rfl,rfl⟩,⟨rfl,rfl⟩,⟨rfl,⟨rfl,⟨rfl,rfl⟩,⟨rfl,rfl⟩,rfl,⟨rfl,rfl⟩,⟨rfl,rfl⟩,⟨rfl,rfl⟩,tv⟩,rfl⟩,⟨rfl,rfl,(o4 hp x0 hx0 h1),(fun i3=>(fun h4=>rfl))⟩,⟨rfl,rfl,rfl,(fun i5=>(fun h6=>rfl))⟩,tv⟩,rfl,rfl⟩) (o5 hp x0 hx0 h1) (fun (x2:Nat) hx2 => ?_)
  refine swp_seq (swp_seq ?_)
  refine sR (kt:=[1,2,5,6,4,31]) (kh:=[0,8,5003,5004,5005]) (q:=True/\True/\True/\True/\True) (st':=ASt.mk [(1,.ptr 0 []),(2,.ptr 8 []),(5,iv (x0:Int)),(6,iv (x2:Int)),(4,.ptr 5003 []),(31,bv (decide ((x2:Int) < r.plates)))] [(0,.cells 25 (cRun r)),(8,.cells 62 [nilv,nilv,nilv,nilv,iv 0,iv 0,iv 0]),(5003,.cells 62 [.vec 5004,nilv,nilv,.vec 5005,iv 0,iv 0,iv 0]),(5004,.vec 37 2 (x0 * r.plates.toNat + x2) fun (k:Nat)=>cSpan (wAt r k)),(5005,.vec 3 1 x0 fun (k:Nat)=>[iv (mixedS r (k:Int))])] 20120) (by kernel_rfl) ⟨tv,tv,tv,tv,tv⟩ ?_
  refine swp_cond (decide ((x2:Int) < r.plates)) (by kernel_rfl) (fun h7 => ?_) (fun h7 => ?_)
  ·refine swp_skip (swp_seq (swp_block (swp_seq ?_)))
   refine swp_region T0_ok mixed (cs:=[(3,CallSpec.eq (s23 r (x0:Int) (x2:Int)) [true,true,true])]) (kt:=[1,2,5,6,4,7,8]) (kh:=[0,8,5003,20176,5004,5005]) (q:=True/\True/\True/\((AV.agg (cRun r)=AV.agg (cRun r)/\iv (x0:Int)=iv (x0:Int)/\iv (x2:Int)=iv (x2:Int)/\True)/\Triple Try.prog 23 (s23 r (x0:Int) (x2:Int))/\fits r/\True /\ ∀ (i8:Env),True)/\True/\True/\True/\True/\True/\True/\True) (st':=ASt.mk [(1,.ptr 0 []),(2,.ptr 8 []),(5,iv (x0:Int)),(6,iv (x2:Int)),(4,.ptr 5003 []),(7,.ptr 20176 []),(8,iv (openE r (whenIs r (x0:Int) (x2:Int))))] [(0,.cells 25 (cRun r)),(8,.cells 62 [nilv,nilv,nilv,nilv,iv 0,iv 0,iv 0]),(5003,.cells 62 [.vec 5004,nilv,nilv,.vec 5005,iv 0,iv 0,iv 0]),(20176,.cells 37 (cSpan (whenS r (x0:Int) (x2:Int)))),(5004,.vec 37 2 (x0 * r.plates.toNat + x2) fun (k:Nat)=>cSpan (wAt r k)),(5005,.vec 3 1 x0 fun (k:Nat)=>[iv (mixedS r (k:Int))])] 20200) (by kernel_rfl) ⟨tv,tv,tv,⟨⟨rfl,rfl,rfl,tv⟩,(t23 (r) ((x0:Int)) ((x2:Int))),hp.1,tv,(fun i8=>tv)⟩,tv,tv,tv,tv,tv,tv,tv⟩ ?_
   refine swp_seq (swp_seq ?_)
   refine swp_region T0_ok mixed (cs:=[(13,CallSpec.eq (s28 (whenS r (x0:Int) (x2:Int)) ((mach r x0).changes.getD x2 default)) [true,true])]) (kt:=[1,2,5,6,4,7,56]) (kh:=[0,8,5003,20176,5004,5005]) (q:=True/\True/\True/\((!!decide (openE r (whenIs r (x0:Int) (x2:Int))=0))->(True/\True)/\True)/\((!!decide (openE r (whenIs r (x0:Int) (x2:Int))=0))->(True/\True)/\True)/\((!!decide (openE r (whenIs r (x0:Int) (x2:Int))=0))->(((!!decide (openE r (whenIs r (x0:Int) (x2:Int))=0))->(!!decide (openE r (whenIs r (x0:Int) (x2:Int))=0))=true)/\True)/\True)/\((!!decide (openE r (whenIs r (x0:Int) (x2:Int))=0))->(True/\True)/\True)/\((!!decide (openE r (whenIs r (x0:Int) (x2:Int))=0))->(((!!decide (openE r (whenIs r (x0:Int) (x2:Int))=0))->(!!decide (openE r (whenIs r (x0:Int) (x2:Int))=0))=true)/\((!!decide (openE r (whenIs r (x0:Int) (x2:Int))=0))->(!!decide (openE r (whenIs r (x0:Int) (x2:Int))=0))=true)/\True)/\0<=(x0:Int)/\(x0:Int) < (↑(r.machines.length):Int))/\((!!decide (openE r (whenIs r (x0:Int) (x2:Int))=0))->(((!!decide (openE r (whenIs r (x0:Int) (x2:Int))=0))->(!!decide (openE r (whenIs r (x0:Int) (x2:Int))=0))=true)/\True)/\True)/\((!!decide (openE r (whenIs r (x0:Int) (x2:Int))=0))->(((!!decide (openE r (whenIs r (x0:Int) (x2:Int))=0))->(!!decide (openE r (whenIs r (x0:Int) (x2:Int))=0))=true)/\True)/\True)/\((!!decide (openE r (whenIs r (x0:Int) (x2:Int))=0))->(True/\True)/\True)/\((!!decide (openE r (whenIs r (x0:Int) (x2:Int))=0))->(((!!decide (openE r (whenIs r (x0:Int) (x2:Int))=0))->(!!decide (openE r (whenIs r (x0:Int) (x2:Int))=0))=true)/\((!!decide (openE r (whenIs r (x0:Int) (x2:Int))=0))->(!!decide (openE r (whenIs r (x0:Int) (x2:Int))=0))=true)/\True)/\0<=(x2:Int)/\(x2:Int) < (↑((mach r x0).changes.length):Int))/\((!!decide (openE r (whenIs r (x0:Int) (x2:Int))=0))->(((!!decide (openE r (whenIs r (x0:Int) (x2:Int))=0))->(!!decide (openE r (whenIs r (x0:Int) (x2:Int))=0))=true)/\True)/\True)/\((!!decide (openE r (whenIs r (x0:Int) (x2:Int))=0))->(True/\((!!decide (openE r (whenIs r (x0:Int) (x2:Int))=0))->(!!decide (openE r (whenIs r (x0:Int) (x2:Int))=0))=true)/\((!!decide (openE r (whenIs r (x0:Int) (x2:Int))=0))->(!!decide (openE r (whenIs r (x0:Int) (x2:Int))=0))=true)/\True)/\(AV.agg (cSpan (whenS r (x0:Int) (x2:Int)))=AV.agg (cSpan (whenS r (x0:Int) (x2:Int)))/\AV.agg (cSpan ((mach r x0).changes.getD x2 default))=AV.agg (cSpan ((mach r x0).changes.getD x2 default))/\True)/\Triple Try.prog 28 (s28 (whenS r (x0:Int) (x2:Int)) ((mach r x0).changes.getD x2 default))/\True/\True /\ ∀ (i30:Env),True)/\((!!decide (openE r (whenIs r (x0:Int) (x2:Int))=0))->(((!!decide (openE r (whenIs r (x0:Int) (x2:Int))=0))->(!!decide (openE r (whenIs r (x0:Int) (x2:Int))=0))=true)/\True)/\True)/\(((!decide (openE r (whenIs r (x0:Int) (x2:Int))=0))->True)/\((!decide (openE r (whenIs r (x0:Int) (x2:Int))=0))=false->(!!decide (openE r (whenIs r (x0:Int) (x2:Int))=0))=true))/\True) (st':=ASt.mk [(1,.ptr 0 []),(2,.ptr 8 []),(5,iv (x0:Int)),(6,iv (x2:Int)),(4,.ptr 5003 []),(7,.ptr 20176 []),(56,bv (bif !decide (openE r (whenIs r (x0:Int) (x2:Int))=0) then true else !inside (whenS r (x0:Int) (x2:Int)) ((mach r x0).changes.getD x2 default)))] [(0,.cells 25 (cRun r)),(8,.cells 62 [nilv,nilv,nilv,nilv,iv 0,iv 0,iv 0]),(5003,.cells 62 [.vec 5004,nilv,nilv,.vec 5005,iv 0,iv 0,iv 0]),(20176,.cells 37 (cSpan (whenS r (x0:Int) (x2:Int)))),(5004,.vec 37 2 (x0 * r.plates.toNat + x2) fun (k:Nat)=>cSpan (wAt r k)),(5005,.vec 3 1 x0 fun (k:Nat)=>[iv (mixedS r (k:Int))])] 20328) (by kernel_rfl) ⟨tv,tv,tv,(fun h9=>⟨⟨tv,tv⟩,tv⟩),(fun h10=>⟨⟨tv,tv⟩,tv⟩),(fun h11=>⟨⟨(fun h12=>h11),tv⟩,tv⟩),(fun h13=>⟨⟨tv,tv⟩,tv⟩),(fun h14=>⟨⟨(fun h15=>h14),(fun h16=>h14),tv⟩,(o6 hp x0 hx0 h1 x2 hx2 h7 h14),(o7 hp x0 hx0 h1 x2 hx2 h7 h14)⟩),(fun h17=>⟨⟨(fun h18=>h17),tv⟩,tv⟩),(fun h19=>⟨⟨(fun h20=>h19),tv⟩,tv⟩),(fun h21=>⟨⟨tv,tv⟩,tv⟩),(fun h22=>⟨⟨(fun h23=>h22),(fun h24=>h22),tv⟩,(o8 hp x0 hx0 h1 x2 hx2 h7 h22),(o9 hp x0 hx0 h1 x2 hx2 h7 h22)⟩),(fun h25=>⟨⟨(fun h26=>h25),tv⟩,tv⟩),(fun h27=>⟨⟨tv,(fun h28=>h27),(fun h29=>h27),tv⟩,⟨rfl,rfl,tv⟩,(t28 (whenS r (x0:Int) (x2:Int)) ((mach r x0).changes.getD x2 default)),tv,tv,(fun i30=>tv)⟩),(fun h31=>⟨⟨(fun h32=>h31),tv⟩,tv⟩),⟨(fun h33=>tv),(fun h34=>(o10 hp x0 hx0 h1 x2 hx2 h7 h34))⟩,tv⟩ ?_
   refine swp_cond (bif !decide (openE r (whenIs r (x0:Int) (x2:Int))=0) then true else !inside (whenS r (x0:Int) (x2:Int)) ((mach r x0).changes.getD x2 default)) (by kernel_rfl) (fun h=>by cases (h.symm.trans (o11 hp x0 hx0 h1 x2 hx2 h7))) (fun _ => ?_)
   refine swp_skip ?_
   refine sR (kt:=[1,2,5,6,4]) (kh:=[0,8,5003,20360,5005]) (q:=True/\True/\True/\True/\x0 * r.plates.toNat + x2 + 1<=65536/\True/\True/\True) (st':=ASt.mk [(1,.ptr 0 []),(2,.ptr 8 []),(5,iv (x0:Int)),(6,iv (x2:Int)),(4,.ptr 5003 [])] [(0,.cells 25 (cRun r)),(8,.cells 62 [nilv,nilv,nilv,nilv,iv 0,iv 0,iv 0]),(5003,.cells 62 [.vec 20360,nilv,nilv,.vec 5005,iv 0,iv 0,iv 0]),(20360,.vec 37 2 (x0 * r.plates.toNat + x2 + 1) (catF (x0 * r.plates.toNat + x2) (fun (k:Nat)=>cSpan (wAt r k)) fun (j:Nat)=>List.getD [[iv (whenS r (x0:Int) (x2:Int)).lo,iv (whenS r (x0:Int) (x2:Int)).hi]] j (TI.za ti37))),(5005,.vec 3 1 x0 fun (k:Nat)=>[iv (mixedS r (k:Int))])] 20384) (by kernel_rfl) ⟨tv,tv,tv,tv,(o12 hp x0 hx0 h1 x2 hx2 h7),tv,tv,tv⟩ ?_
   refine sR (kt:=[1,2,5,6,4]) (kh:=[0,8,5003,20360,5005]) (q:=True/\inI ((x2:Int) + 1)/\True/\True) (st':=ASt.mk [(1,.ptr 0 []),(2,.ptr 8 []),(5,iv (x0:Int)),(6,iv ((x2:Int) + 1)),(4,.ptr 5003 [])] [(0,.cells 25 (cRun r)),(8,.cells 62 [nilv,nilv,nilv,nilv,iv 0,iv 0,iv 0]),(5003,.cells 62 [.vec 20360,nilv,nilv,.vec 5005,iv 0,iv 0,iv 0]),(20360,.vec 37 2 (x0 * r.plates.toNat + x2 + 1) (catF (x0 * r.plates.toNat + x2) (fun (k:Nat)=>cSpan (wAt r k)) fun (j:Nat)=>List.getD [[iv (whenS r (x0:Int) (x2:Int)).lo,iv (whenS r (x0:Int) (x2:Int)).hi]] j (TI.za ti37))),(5005,.vec 3 1 x0 fun (k:Nat)=>[iv (mixedS r (k:Int))])] 20408) (by kernel_rfl) ⟨tv,(o13 hp x0 hx0 h1 x2 hx2 h7),tv,tv⟩ ?_
   exact loop_next (Hint.ann (h47b r x0) [(1,AV.ptr 0 []),(2,AV.ptr 8 []),(5,iv (x0:Int))] [(0,OB.cells 25 (cRun r)),(8,OB.cells 62 [nilv,nilv,nilv,nilv,iv 0,iv 0,iv 0])] 20088) x2 (ent_q hE [] [(0,.same 0),(8,.same 8),(5003,.same 5003),(5004,.same 20360),(5005,.same 5005)] [5] [0,8,5005] (((some (Src.same 0)=some (Src.same 0)/\nilP = [])/\(some (Src.same 8)=some (Src.same 8)/\nilP = [])/\(iv (x0:Int)=iv (x0:Int)/\true=true)/\(iv ((x2:Int) + 1)=iv (↑(x2 + 1):Int)/\nilN = [])/\(some (Src.same 5003)=some (Src.same 5003)/\nilP = [])/\True)/\((OB.cells 25 (cRun r)=OB.cells 25 (cRun r)/\true=true)/\(OB.cells 62 [nilv,nilv,nilv,nilv,iv 0,iv 0,iv 0]=OB.cells 62 [nilv,nilv,nilv,nilv,iv 0,iv 0,iv 0]/\true=true)/\(62=62/\(some (Src.same 20360)=some (Src.same 20360)/\(nilv=nilv/\nilN = [])/\(nilv=nilv/\nilN = [])/\some (Src.same 5005)=some (Src.same 5005)/\(iv 0=iv 0/\nilN = [])/\(iv 0=iv 0/\nilN = [])/\(iv 0=iv 0/\nilN = [])/\True)/\true=true)/\(37=37/\2=2/\x0 * r.plates.toNat + x2 + 1=x0 * r.plates.toNat + (x2 + 1) /\ ∀ (i35:Nat),i35 < x0 * r.plates.toNat + x2 + 1->catF (x0 * r.plates.toNat + x2) (fun (k:Nat)=>cSpan (wAt r k)) (fun (j:Nat)=>List.getD [[iv (whenS r (x0:Int) (x2:Int)).lo,iv (whenS r (x0:Int) (x2:Int)).hi]] j (TI.za ti37)) i35=cSpan (wAt r i35))/\(((OB.vec 3 1 x0 fun (k:Nat)=>[iv (mixedS r (k:Int))])=OB.vec 3 1 x0 fun (k:Nat)=>[iv (mixedS r (k:Int))])/\true=true)/\True)/\T2) (by kernel_rfl) (by kernel_rfl) ⟨⟨⟨rfl,rfl⟩,⟨rfl,rfl⟩,⟨rfl,rfl⟩,⟨(congrArg iv (o14 hp x0 hx0 h1 x2 hx2 h7)),rfl⟩,⟨rfl,rfl⟩,tv⟩,⟨⟨rfl,rfl⟩,⟨rfl,rfl⟩,⟨rfl,⟨rfl,⟨rfl,rfl⟩,⟨rfl,rfl⟩,rfl,⟨rfl,rfl⟩,⟨rfl,rfl⟩,⟨rfl,rfl⟩,tv⟩,rfl⟩,⟨rfl,rfl,(o15 hp x0 hx0 h1 x2 hx2 h7),(fun i35=>(fun h36=>(o16 hp x0 hx0 h1 x2 hx2 h7 i35 h36)))⟩,⟨rfl,rfl⟩,tv⟩,rfl,rfl⟩) (o17 hp x0 hx0 h1 x2 hx2 h7) (o18 hp x0 hx0 h1 x2 hx2 h7)
  ·refine swp_exit (swp_seq ?_)
   refine swp_region T0_ok mixed (cs:=[(2,CallSpec.eq (s65 r (x0:Int)) [true,true])]) (kt:=[1,2,5,4,9,10]) (kh:=[0,8,5003,5004,5005]) (q:=True/\True/\((AV.agg (cRun r)=AV.agg (cRun r)/\iv (x0:Int)=iv (x0:Int)/\True)/\Triple Try.prog 65 (s65 r (x0:Int))/\fits r/\True /\ ∀ (i37:Env),True)/\True/\True/\True/\True/\True/\True) (st':=ASt.mk [(1,.ptr 0 []),(2,.ptr 8 []),(5,iv (x0:Int)),(4,.ptr 5003 []),(9,iv (mixedS r (x0:Int))),(10,iv (openE r (isMachine r (x0:Int))))] [(0,.cells 25 (cRun r)),(8,.cells 62 [nilv,nilv,nilv,nilv,iv 0,iv 0,iv 0]),(5003,.cells 62 [.vec 5004,nilv,nilv,.vec 5005,iv 0,iv 0,iv 0]),(5004,.vec 37 2 (x0 * r.plates.toNat + x2) fun (k:Nat)=>cSpan (wAt r k)),(5005,.vec 3 1 x0 fun (k:Nat)=>[iv (mixedS r (k:Int))])] 20184) (by kernel_rfl) ⟨tv,tv,⟨⟨rfl,rfl,tv⟩,(t65 (r) ((x0:Int))),hp.1,tv,(fun i37=>tv)⟩,tv,tv,tv,tv,tv,tv⟩ ?_
   refine swp_seq (swp_seq ?_)
   refine swp_region T0_ok mixed (cs:=[(4,CallSpec.eq (s24 (mixedS r (x0:Int)) 1 3) [true,true,true])]) (kt:=[1,2,5,4,9,76]) (kh:=[0,8,5003,5004,5005]) (q:=True/\True/\True/\((!!decide (openE r (isMachine r (x0:Int))=0))->(True/\True)/\True)/\((!!decide (openE r (isMachine r (x0:Int))=0))->(True/\((!!decide (openE r (isMachine r (x0:Int))=0))->(!!decide (openE r (isMachine r (x0:Int))=0))=true)/\True/\True/\True)/\(iv (mixedS r (x0:Int))=iv (mixedS r (x0:Int))/\iv 1=iv 1/\iv 3=iv 3/\True)/\Triple Try.prog 24 (s24 (mixedS r (x0:Int)) 1 3)/\True/\True /\ ∀ (i41:Env),True)/\((!!decide (openE r (isMachine r (x0:Int))=0))->(((!!decide (openE r (isMachine r (x0:Int))=0))->(!!decide (openE r (isMachine r (x0:Int))=0))=true)/\True)/\True)/\(((!decide (openE r (isMachine r (x0:Int))=0))->True)/\((!decide (openE r (isMachine r (x0:Int))=0))=false->(!!decide (openE r (isMachine r (x0:Int))=0))=true))/\True) (st':=ASt.mk [(1,.ptr 0 []),(2,.ptr 8 []),(5,iv (x0:Int)),(4,.ptr 5003 []),(9,iv (mixedS r (x0:Int))),(76,bv (bif !decide (openE r (isMachine r (x0:Int))=0) then true else !within (mixedS r (x0:Int)) 1 3))] [(0,.cells 25 (cRun r)),(8,.cells 62 [nilv,nilv,nilv,nilv,iv 0,iv 0,iv 0]),(5003,.cells 62 [.vec 5004,nilv,nilv,.vec 5005,iv 0,iv 0,iv 0]),(5004,.vec 37 2 (x0 * r.plates.toNat + x2) fun (k:Nat)=>cSpan (wAt r k)),(5005,.vec 3 1 x0 fun (k:Nat)=>[iv (mixedS r (k:Int))])] 20240) (by kernel_rfl) ⟨tv,tv,tv,(fun h38=>⟨⟨tv,tv⟩,tv⟩),(fun h39=>⟨⟨tv,(fun h40=>h39),tv,tv,tv⟩,⟨rfl,rfl,rfl,tv⟩,(t24 (mixedS r (x0:Int)) (1) (3)),tv,tv,(fun i41=>tv)⟩),(fun h42=>⟨⟨(fun h43=>h42),tv⟩,tv⟩),⟨(fun h44=>tv),(fun h45=>(o19 hp x0 hx0 h1 x2 hx2 h7 h45))⟩,tv⟩ ?_
   refine swp_cond (bif !decide (openE r (isMachine r (x0:Int))=0) then true else !within (mixedS r (x0:Int)) 1 3) (by kernel_rfl) (fun h=>by cases (h.symm.trans (o20 hp x0 hx0 h1 x2 hx2 h7))) (fun _ => ?_)
   refine swp_skip ?_
   refine sR (kt:=[1,2,5,4]) (kh:=[0,8,5003,5004,20272]) (q:=True/\True/\True/\True/\x0 + 1<=65536/\True/\True/\True) (st':=ASt.mk [(1,.ptr 0 []),(2,.ptr 8 []),(5,iv (x0:Int)),(4,.ptr 5003 [])] [(0,.cells 25 (cRun r)),(8,.cells 62 [nilv,nilv,nilv,nilv,iv 0,iv 0,iv 0]),(5003,.cells 62 [.vec 5004,nilv,nilv,.vec 20272,iv 0,iv 0,iv 0]),(5004,.vec 37 2 (x0 * r.plates.toNat + x2) fun (k:Nat)=>cSpan (wAt r k)),(20272,.vec 3 1 (x0 + 1) (catF x0 (fun (k:Nat)=>[iv (mixedS r (k:Int))]) fun (j:Nat)=>List.getD [[iv (mixedS r (x0:Int))]] j (TI.za ti3)))] 20296) (by kernel_rfl) ⟨tv,tv,tv,tv,(o21 hp x0 hx0 h1 x2 hx2 h7),tv,tv,tv⟩ ?_
   refine sR (kt:=[1,2,5,4]) (kh:=[0,8,5003,5004,20272]) (q:=True/\inI ((x0:Int) + 1)/\True/\True) (st':=ASt.mk [(1,.ptr 0 []),(2,.ptr 8 []),(5,iv ((x0:Int) + 1)),(4,.ptr 5003 [])] [(0,.cells 25 (cRun r)),(8,.cells 62 [nilv,nilv,nilv,nilv,iv 0,iv 0,iv 0]),(5003,.cells 62 [.vec 5004,nilv,nilv,.vec 20272,iv 0,iv 0,iv 0]),(5004,.vec 37 2 (x0 * r.plates.toNat + x2) fun (k:Nat)=>cSpan (wAt r k)),(20272,.vec 3 1 (x0 + 1) (catF x0 (fun (k:Nat)=>[iv (mixedS r (k:Int))]) fun (j:Nat)=>List.getD [[iv (mixedS r (x0:Int))]] j (TI.za ti3)))] 20320) (by kernel_rfl) ⟨tv,(o22 hp x0 hx0 h1 x2 hx2 h7),tv,tv⟩ ?_
   exact loop_next (Hint.ann (h47a r) [(1,AV.ptr 0 []),(2,AV.ptr 8 [])] [(0,OB.cells 25 (cRun r)),(8,OB.cells 62 [nilv,nilv,nilv,nilv,iv 0,iv 0,iv 0])] 10040) x0 (ent_q hE [] [(0,.same 0),(8,.same 8),(5000,.same 5003),(5001,.same 5004),(5002,.same 20272)] [] [0,8] (((some (Src.same 0)=some (Src.same 0)/\nilP = [])/\(some (Src.same 8)=some (Src.same 8)/\nilP = [])/\(iv ((x0:Int) + 1)=iv (↑(x0 + 1):Int)/\nilN = [])/\(some (Src.same 5003)=some (Src.same 5003)/\nilP = [])/\True)/\((OB.cells 25 (cRun r)=OB.cells 25 (cRun r)/\true=true)/\(OB.cells 62 [nilv,nilv,nilv,nilv,iv 0,iv 0,iv 0]=OB.cells 62 [nilv,nilv,nilv,nilv,iv 0,iv 0,iv 0]/\true=true)/\(62=62/\(some (Src.same 5004)=some (Src.same 5004)/\(nilv=nilv/\nilN = [])/\(nilv=nilv/\nilN = [])/\some (Src.same 20272)=some (Src.same 20272)/\(iv 0=iv 0/\nilN = [])/\(iv 0=iv 0/\nilN = [])/\(iv 0=iv 0/\nilN = [])/\True)/\true=true)/\(37=37/\2=2/\x0 * r.plates.toNat + x2=(x0 + 1) * r.plates.toNat /\ ∀ (i46:Nat),i46 < x0 * r.plates.toNat + x2->cSpan (wAt r i46)=cSpan (wAt r i46))/\(3=3/\1=1/\x0 + 1=x0 + 1 /\ ∀ (i48:Nat),i48 < x0 + 1->catF x0 (fun (k:Nat)=>[iv (mixedS r (k:Int))]) (fun (j:Nat)=>List.getD [[iv (mixedS r (x0:Int))]] j (TI.za ti3)) i48 = [iv (mixedS r (i48:Int))])/\True)/\T2) (by kernel_rfl) (by kernel_rfl) ⟨⟨⟨rfl,rfl⟩,⟨rfl,rfl⟩,⟨(congrArg iv (o23 hp x0 hx0 h1 x2 hx2 h7)),rfl⟩,⟨rfl,rfl⟩,tv⟩,⟨⟨rfl,rfl⟩,⟨rfl,rfl⟩,⟨rfl,⟨rfl,⟨rfl,rfl⟩,⟨rfl,rfl⟩,rfl,⟨rfl,rfl⟩,⟨rfl,rfl⟩,⟨rfl,rfl⟩,tv⟩,rfl⟩,⟨rfl,rfl,(o24 hp x0 hx0 h1 x2 hx2 h7),(fun i46=>(fun h47=>rfl))⟩,⟨rfl,rfl,rfl,(fun i48=>(fun h49=>(o25 hp x0 hx0 h1 x2 hx2 h7 i48 h49)))⟩,tv⟩,rfl,rfl⟩) (o26 hp x0 hx0 h1 x2 hx2 h7) (o27 hp x0 hx0 h1 x2 hx2 h7)
 ·refine swp_exit (swp_seq (swp_seq ?_))
  refine sR (kt:=[1,2,4,11]) (kh:=[0,8,5000,5001,5002]) (q:=True/\True) (st':=ASt.mk [(1,.ptr 0 []),(2,.ptr 8 []),(4,.ptr 5000 []),(11,iv 0)] [(0,.cells 25 (cRun r)),(8,.cells 62 [nilv,nilv,nilv,nilv,iv 0,iv 0,iv 0]),(5000,.cells 62 [.vec 5001,nilv,nilv,.vec 5002,iv 0,iv 0,iv 0]),(5001,.vec 37 2 (x0 * r.plates.toNat) fun (k:Nat)=>cSpan (wAt r k)),(5002,.vec 3 1 x0 fun (k:Nat)=>[iv (mixedS r (k:Int))])] 10088) (by kernel_rfl) ⟨tv,tv⟩ ?_
  refine swp_block ?_
  refine swp_loopA (Hint.ann (h47c r) [(1,AV.ptr 0 []),(2,AV.ptr 8 [])] [(0,OB.cells 25 (cRun r)),(8,OB.cells 62 [nilv,nilv,nilv,nilv,iv 0,iv 0,iv 0])] 20088) (ent_q hE [] [(0,.same 0),(8,.same 8),(5006,.same 5000),(5007,.same 5001),(5008,.nil),(5009,.same 5002)] [] [0,8] (((some (Src.same 0)=some (Src.same 0)/\nilP = [])/\(some (Src.same 8)=some (Src.same 8)/\nilP = [])/\(iv 0=iv (↑0:Int)/\nilN = [])/\(some (Src.same 5000)=some (Src.same 5000)/\nilP = [])/\True)/\((OB.cells 25 (cRun r)=OB.cells 25 (cRun r)/\true=true)/\(OB.cells 62 [nilv,nilv,nilv,nilv,iv 0,iv 0,iv 0]=OB.cells 62 [nilv,nilv,nilv,nilv,iv 0,iv 0,iv 0]/\true=true)/\(62=62/\(some (Src.same 5001)=some (Src.same 5001)/\some Src.nil=some Src.nil/\(nilv=nilv/\nilN = [])/\some (Src.same 5002)=some (Src.same 5002)/\(iv 0=iv 0/\nilN = [])/\(iv 0=iv 0/\nilN = [])/\(iv 0=iv 0/\nilN = [])/\True)/\true=true)/\(37=37/\2=2/\x0 * r.plates.toNat=r.machines.length * r.plates.toNat /\ ∀ (i51:Nat),i51 < x0 * r.plates.toNat->cSpan (wAt r i51)=cSpan (wAt r i51))/\0=0/\(3=3/\1=1/\x0=r.machines.length /\ ∀ (i53:Nat),i53 < x0 -> [iv (mixedS r (i53:Int))] = [iv (mixedS r (i53:Int))])/\True)/\T2) (by kernel_rfl) (by kernel_rfl) ⟨⟨⟨rfl,rfl⟩,⟨rfl,rfl⟩,⟨(congrArg iv (o28 hp x0 hx0 h1)),rfl⟩,⟨rfl,rfl⟩,tv⟩,⟨⟨rfl,rfl⟩,⟨rfl,rfl⟩,⟨rfl,⟨rfl,rfl,⟨rfl,rfl⟩,rfl,⟨rfl,rfl⟩,⟨rfl,rfl⟩,⟨rfl,rfl⟩,tv⟩,rfl⟩,⟨rfl,rfl,(o29 hp x0 hx0 h1),(fun i51=>(fun h52=>rfl))⟩,rfl,⟨rfl,rfl,(o30 hp x0 hx0 h1),(fun i53=>(fun h54=>rfl))⟩,tv⟩,rfl,rfl⟩) (o31 hp x0 hx0 h1) (fun (x50:Nat) hx50 => ?_)
  refine swp_seq (swp_seq ?_)
  refine sR (kt:=[1,2,11,4,87]) (kh:=[0,8,5006,5007,5008,5009]) (q:=True/\True/\True/\True/\True) (st':=ASt.mk [(1,.ptr 0 []),(2,.ptr 8 []),(11,iv (x50:Int)),(4,.ptr 5006 []),(87,bv (decide ((x50:Int) < r.plates)))] [(0,.cells 25 (cRun r)),(8,.cells 62 [nilv,nilv,nilv,nilv,iv 0,iv 0,iv 0]),(5006,.cells 62 [.vec 5007,.vec 5008,nilv,.vec 5009,iv 0,iv 0,iv 0]),(5007,.vec 37 2 (r.machines.length * r.plates.toNat) fun (k:Nat)=>cSpan (wAt r k)),(5008,.vec 37 2 x50 fun (k:Nat)=>cSpan (oldS r (k:Int))),(5009,.vec 3 1 r.machines.length fun (k:Nat)=>[iv (mixedS r (k:Int))])] 20120) (by kernel_rfl) ⟨tv,tv,tv,tv,tv⟩ ?_
  refine swp_cond (decide ((x50:Int) < r.plates)) (by kernel_rfl) (fun h55 => ?_) (fun h55 => ?_)
  ·refine swp_skip (swp_seq (swp_block (swp_seq ?_)))
   refine swp_region T0_ok mixed (cs:=[(2,CallSpec.eq (s26 r (x50:Int)) [true,true])]) (kt:=[1,2,11,4,12,13]) (kh:=[0,8,5006,20168,5007,5008,5009]) (q:=True/\True/\((AV.agg (cRun r)=AV.agg (cRun r)/\iv (x50:Int)=iv (x50:Int)/\True)/\Triple Try.prog 26 (s26 r (x50:Int))/\fits r/\True /\ ∀ (i56:Env),True)/\True/\True/\True/\True/\True/\True/\True) (st':=ASt.mk [(1,.ptr 0 []),(2,.ptr 8 []),(11,iv (x50:Int)),(4,.ptr 5006 []),(12,.ptr 20168 []),(13,iv (openE r (isPlate r (x50:Int))))] [(0,.cells 25 (cRun r)),(8,.cells 62 [nilv,nilv,nilv,nilv,iv 0,iv 0,iv 0]),(5006,.cells 62 [.vec 5007,.vec 5008,nilv,.vec 5009,iv 0,iv 0,iv 0]),(20168,.cells 37 (cSpan (oldS r (x50:Int)))),(5007,.vec 37 2 (r.machines.length * r.plates.toNat) fun (k:Nat)=>cSpan (wAt r k)),(5008,.vec 37 2 x50 fun (k:Nat)=>cSpan (oldS r (k:Int))),(5009,.vec 3 1 r.machines.length fun (k:Nat)=>[iv (mixedS r (k:Int))])] 20192) (by kernel_rfl) ⟨tv,tv,⟨⟨rfl,rfl,tv⟩,(t26 (r) ((x50:Int))),hp.1,tv,(fun i56=>tv)⟩,tv,tv,tv,tv,tv,tv,tv⟩ ?_
   refine swp_seq (swp_seq ?_)
   refine swp_region T0_ok mixed (cs:=[(4,CallSpec.eq (s29 0 810) [true,true]),(5,CallSpec.eq (s28 (oldS r (x50:Int)) (Span.mk 0 810)) [true,true])]) (kt:=[1,2,11,4,12,103]) (kh:=[0,8,5006,20168,5007,5008,5009]) (q:=True/\True/\True/\((!!decide (openE r (isPlate r (x50:Int))=0))->(True/\True)/\True)/\((!!decide (openE r (isPlate r (x50:Int))=0))->(True/\True/\True/\True)/\(iv 0=iv 0/\iv 810=iv 810/\True)/\Triple Try.prog 29 (s29 0 810)/\True/\True /\ ∀ (i59:Env),True)/\((!!decide (openE r (isPlate r (x50:Int))=0))->(True/\((!!decide (openE r (isPlate r (x50:Int))=0))->(!!decide (openE r (isPlate r (x50:Int))=0))=true)/\((!!decide (openE r (isPlate r (x50:Int))=0))->(!!decide (openE r (isPlate r (x50:Int))=0))=true)/\True)/\(AV.agg (cSpan (oldS r (x50:Int)))=AV.agg (cSpan (oldS r (x50:Int)))/\AV.agg (cSpan (Span.mk 0 810))=AV.agg (cSpan (Span.mk 0 810))/\True)/\Triple Try.prog 28 (s28 (oldS r (x50:Int)) (Span.mk 0 810))/\True/\True /\ ∀ (i63:Env),True)/\((!!decide (openE r (isPlate r (x50:Int))=0))->(((!!decide (openE r (isPlate r (x50:Int))=0))->(!!decide (openE r (isPlate r (x50:Int))=0))=true)/\True)/\True)/\(((!decide (openE r (isPlate r (x50:Int))=0))->True)/\((!decide (openE r (isPlate r (x50:Int))=0))=false->(!!decide (openE r (isPlate r (x50:Int))=0))=true))/\True) (st':=ASt.mk [(1,.ptr 0 []),(2,.ptr 8 []),(11,iv (x50:Int)),(4,.ptr 5006 []),(12,.ptr 20168 []),(103,bv (bif !decide (openE r (isPlate r (x50:Int))=0) then true else !inside (oldS r (x50:Int)) (Span.mk 0 810)))] [(0,.cells 25 (cRun r)),(8,.cells 62 [nilv,nilv,nilv,nilv,iv 0,iv 0,iv 0]),(5006,.cells 62 [.vec 5007,.vec 5008,nilv,.vec 5009,iv 0,iv 0,iv 0]),(20168,.cells 37 (cSpan (oldS r (x50:Int)))),(5007,.vec 37 2 (r.machines.length * r.plates.toNat) fun (k:Nat)=>cSpan (wAt r k)),(5008,.vec 37 2 x50 fun (k:Nat)=>cSpan (oldS r (k:Int))),(5009,.vec 3 1 r.machines.length fun (k:Nat)=>[iv (mixedS r (k:Int))])] 20256) (by kernel_rfl) ⟨tv,tv,tv,(fun h57=>⟨⟨tv,tv⟩,tv⟩),(fun h58=>⟨⟨tv,tv,tv,tv⟩,⟨rfl,rfl,tv⟩,(t29 (0) (810)),tv,tv,(fun i59=>tv)⟩),(fun h60=>⟨⟨tv,(fun h61=>h60),(fun h62=>h60),tv⟩,⟨rfl,rfl,tv⟩,(t28 (oldS r (x50:Int)) (Span.mk 0 810)),tv,tv,(fun i63=>tv)⟩),(fun h64=>⟨⟨(fun h65=>h64),tv⟩,tv⟩),⟨(fun h66=>tv),(fun h67=>(o32 hp x0 hx0 h1 x50 hx50 h55 h67))⟩,tv⟩ ?_
   refine swp_cond (bif !decide (openE r (isPlate r (x50:Int))=0) then true else !inside (oldS r (x50:Int)) (Span.mk 0 810)) (by kernel_rfl) (fun h=>by cases (h.symm.trans (o33 hp x0 hx0 h1 x50 hx50 h55))) (fun _ => ?_)
   refine swp_skip ?_
   refine sR (kt:=[1,2,11,4]) (kh:=[0,8,5006,5007,20288,5009]) (q:=True/\True/\True/\True/\x50 + 1<=65536/\True/\True/\True) (st':=ASt.mk [(1,.ptr 0 []),(2,.ptr 8 []),(11,iv (x50:Int)),(4,.ptr 5006 [])] [(0,.cells 25 (cRun r)),(8,.cells 62 [nilv,nilv,nilv,nilv,iv 0,iv 0,iv 0]),(5006,.cells 62 [.vec 5007,.vec 20288,nilv,.vec 5009,iv 0,iv 0,iv 0]),(5007,.vec 37 2 (r.machines.length * r.plates.toNat) fun (k:Nat)=>cSpan (wAt r k)),(20288,.vec 37 2 (x50 + 1) (catF x50 (fun (k:Nat)=>cSpan (oldS r (k:Int))) fun (j:Nat)=>List.getD [[iv (oldS r (x50:Int)).lo,iv (oldS r (x50:Int)).hi]] j (TI.za ti37))),(5009,.vec 3 1 r.machines.length fun (k:Nat)=>[iv (mixedS r (k:Int))])] 20312) (by kernel_rfl) ⟨tv,tv,tv,tv,(o34 hp x0 hx0 h1 x50 hx50 h55),tv,tv,tv⟩ ?_
   refine sR (kt:=[1,2,11,4]) (kh:=[0,8,5006,5007,20288,5009]) (q:=True/\inI ((x50:Int) + 1)/\True/\True) (st':=ASt.mk [(1,.ptr 0 []),(2,.ptr 8 []),(11,iv ((x50:Int) + 1)),(4,.ptr 5006 [])] [(0,.cells 25 (cRun r)),(8,.cells 62 [nilv,nilv,nilv,nilv,iv 0,iv 0,iv 0]),(5006,.cells 62 [.vec 5007,.vec 20288,nilv,.vec 5009,iv 0,iv 0,iv 0]),(5007,.vec 37 2 (r.machines.length * r.plates.toNat) fun (k:Nat)=>cSpan (wAt r k)),(20288,.vec 37 2 (x50 + 1) (catF x50 (fun (k:Nat)=>cSpan (oldS r (k:Int))) fun (j:Nat)=>List.getD [[iv (oldS r (x50:Int)).lo,iv (oldS r (x50:Int)).hi]] j (TI.za ti37))),(5009,.vec 3 1 r.machines.length fun (k:Nat)=>[iv (mixedS r (k:Int))])] 20336) (by kernel_rfl) ⟨tv,(o35 hp x0 hx0 h1 x50 hx50 h55),tv,tv⟩ ?_
   exact loop_next (Hint.ann (h47c r) [(1,AV.ptr 0 []),(2,AV.ptr 8 [])] [(0,OB.cells 25 (cRun r)),(8,OB.cells 62 [nilv,nilv,nilv,nilv,iv 0,iv 0,iv 0])] 20088) x50 (ent_q hE [] [(0,.same 0),(8,.same 8),(5006,.same 5006),(5007,.same 5007),(5008,.same 20288),(5009,.same 5009)] [] [0,8,5007,5009] (((some (Src.same 0)=some (Src.same 0)/\nilP = [])/\(some (Src.same 8)=some (Src.same 8)/\nilP = [])/\(iv ((x50:Int) + 1)=iv (↑(x50 + 1):Int)/\nilN = [])/\(some (Src.same 5006)=some (Src.same 5006)/\nilP = [])/\True)/\((OB.cells 25 (cRun r)=OB.cells 25 (cRun r)/\true=true)/\(OB.cells 62 [nilv,nilv,nilv,nilv,iv 0,iv 0,iv 0]=OB.cells 62 [nilv,nilv,nilv,nilv,iv 0,iv 0,iv 0]/\true=true)/\(62=62/\(some (Src.same 5007)=some (Src.same 5007)/\some (Src.same 20288)=some (Src.same 20288)/\(nilv=nilv/\nilN = [])/\some (Src.same 5009)=some (Src.same 5009)/\(iv 0=iv 0/\nilN = [])/\(iv 0=iv 0/\nilN = [])/\(iv 0=iv 0/\nilN = [])/\True)/\true=true)/\(((OB.vec 37 2 (r.machines.length * r.plates.toNat) fun (k:Nat)=>cSpan (wAt r k))=OB.vec 37 2 (r.machines.length * r.plates.toNat) fun (k:Nat)=>cSpan (wAt r k))/\true=true)/\(37=37/\2=2/\x50 + 1=x50 + 1 /\ ∀ (i68:Nat),i68 < x50 + 1->catF x50 (fun (k:Nat)=>cSpan (oldS r (k:Int))) (fun (j:Nat)=>List.getD [[iv (oldS r (x50:Int)).lo,iv (oldS r (x50:Int)).hi]] j (TI.za ti37)) i68=cSpan (oldS r (i68:Int)))/\(((OB.vec 3 1 r.machines.length fun (k:Nat)=>[iv (mixedS r (k:Int))])=OB.vec 3 1 r.machines.length fun (k:Nat)=>[iv (mixedS r (k:Int))])/\true=true)/\True)/\T2) (by kernel_rfl) (by kernel_rfl) ⟨⟨⟨rfl,rfl⟩,⟨rfl,rfl⟩,⟨(congrArg iv (o36 hp x0 hx0 h1 x50 hx50 h55)),rfl⟩,⟨rfl,rfl⟩,tv⟩,⟨⟨rfl,rfl⟩,⟨rfl,rfl⟩,⟨rfl,⟨rfl,rfl,⟨rfl,rfl⟩,rfl,⟨rfl,rfl⟩,⟨rfl,rfl⟩,⟨rfl,rfl⟩,tv⟩,rfl⟩,⟨rfl,rfl⟩,⟨rfl,rfl,rfl,(fun i68=>(fun h69=>(o37 hp x0 hx0 h1 x50 hx50 h55 i68 h69)))⟩,⟨rfl,rfl⟩,tv⟩,rfl,rfl⟩) (o38 hp x0 hx0 h1 x50 hx50 h55) (o39 hp x0 hx0 h1 x50 hx50 h55)
  ·refine swp_exit (swp_seq (swp_seq ?_))
   refine sR (kt:=[1,2,4,14]) (kh:=[0,8,5006,5007,5008,5009]) (q:=True/\True) (st':=ASt.mk [(1,.ptr 0 []),(2,.ptr 8 []),(4,.ptr 5006 []),(14,iv 0)] [(0,.cells 25 (cRun r)),(8,.cells 62 [nilv,nilv,nilv,nilv,iv 0,iv 0,iv 0]),(5006,.cells 62 [.vec 5007,.vec 5008,nilv,.vec 5009,iv 0,iv 0,iv 0]),(5007,.vec 37 2 (r.machines.length * r.plates.toNat) fun (k:Nat)=>cSpan (wAt r k)),(5008,.vec 37 2 x50 fun (k:Nat)=>cSpan (oldS r (k:Int))),(5009,.vec 3 1 r.machines.length fun (k:Nat)=>[iv (mixedS r (k:Int))])] 20128) (by kernel_rfl) ⟨tv,tv⟩ ?_
   refine swp_block ?_
   refine swp_loopA (Hint.ann (h47d r) [(1,AV.ptr 0 []),(2,AV.ptr 8 [])] [(0,OB.cells 25 (cRun r)),(8,OB.cells 62 [nilv,nilv,nilv,nilv,iv 0,iv 0,iv 0])] 30128) (ent_q hE [] [(0,.same 0),(8,.same 8),(5010,.same 5006),(5011,.same 5007),(5012,.same 5008),(5013,.nil),(5014,.same 5009)] [] [0,8] (((some (Src.same 0)=some (Src.same 0)/\nilP = [])/\(some (Src.same 8)=some (Src.same 8)/\nilP = [])/\(iv 0=iv (↑0:Int)/\nilN = [])/\(some (Src.same 5006)=some (Src.same 5006)/\nilP = [])/\True)/\((OB.cells 25 (cRun r)=OB.cells 25 (cRun r)/\true=true)/\(OB.cells 62 [nilv,nilv,nilv,nilv,iv 0,iv 0,iv 0]=OB.cells 62 [nilv,nilv,nilv,nilv,iv 0,iv 0,iv 0]/\true=true)/\(62=62/\(some (Src.same 5007)=some (Src.same 5007)/\some (Src.same 5008)=some (Src.same 5008)/\some Src.nil=some Src.nil/\some (Src.same 5009)=some (Src.same 5009)/\(iv 0=iv 0/\nilN = [])/\(iv 0=iv 0/\nilN = [])/\(iv 0=iv 0/\nilN = [])/\True)/\true=true)/\(37=37/\2=2/\r.machines.length * r.plates.toNat=r.machines.length * r.plates.toNat /\ ∀ (i71:Nat),i71 < r.machines.length * r.plates.toNat->cSpan (wAt r i71)=cSpan (wAt r i71))/\(37=37/\2=2/\x50=r.plates.toNat /\ ∀ (i73:Nat),i73 < x50->cSpan (oldS r (i73:Int))=cSpan (oldS r (i73:Int)))/\0=0/\(3=3/\1=1/\r.machines.length=r.machines.length /\ ∀ (i75:Nat),i75 < r.machines.length -> [iv (mixedS r (i75:Int))] = [iv (mixedS r (i75:Int))])/\True)/\T2) (by kernel_rfl) (by kernel_rfl) ⟨⟨⟨rfl,rfl⟩,⟨rfl,rfl⟩,⟨(congrArg iv (o40 hp x0 hx0 h1 x50 hx50 h55)),rfl⟩,⟨rfl,rfl⟩,tv⟩,⟨⟨rfl,rfl⟩,⟨rfl,rfl⟩,⟨rfl,⟨rfl,rfl,rfl,rfl,⟨rfl,rfl⟩,⟨rfl,rfl⟩,⟨rfl,rfl⟩,tv⟩,rfl⟩,⟨rfl,rfl,rfl,(fun i71=>(fun h72=>rfl))⟩,⟨rfl,rfl,(o41 hp x0 hx0 h1 x50 hx50 h55),(fun i73=>(fun h74=>rfl))⟩,rfl,⟨rfl,rfl,rfl,(fun i75=>(fun h76=>rfl))⟩,tv⟩,rfl,rfl⟩) (o42 hp x0 hx0 h1 x50 hx50 h55) (fun (x70:Nat) hx70 => ?_)
   refine swp_seq (swp_seq ?_)
   refine sR (kt:=[1,2,14,4,115]) (kh:=[0,8,5010,5011,5012,5013,5014]) (q:=True/\True/\True/\True/\True/\True) (st':=ASt.mk [(1,.ptr 0 []),(2,.ptr 8 []),(14,iv (x70:Int)),(4,.ptr 5010 []),(115,bv (decide ((x70:Int) < (↑(r.found.length):Int))))] [(0,.cells 25 (cRun r)),(8,.cells 62 [nilv,nilv,nilv,nilv,iv 0,iv 0,iv 0]),(5010,.cells 62 [.vec 5011,.vec 5012,.vec 5013,.vec 5014,iv 0,iv 0,iv 0]),(5011,.vec 37 2 (r.machines.length * r.plates.toNat) fun (k:Nat)=>cSpan (wAt r k)),(5012,.vec 37 2 r.plates.toNat fun (k:Nat)=>cSpan (oldS r (k:Int))),(5013,.vec 30 1 x70 fun (k:Nat)=>[aInts (whereS r (k:Int))]),(5014,.vec 3 1 r.machines.length fun (k:Nat)=>[iv (mixedS r (k:Int))])] 30168) (by kernel_rfl) ⟨tv,tv,tv,tv,tv,tv⟩ ?_
   refine swp_cond (decide ((x70:Int) < (↑(r.found.length):Int))) (by kernel_rfl) (fun h77 => ?_) (fun h77 => ?_)
   ·refine swp_skip (swp_seq (swp_block (swp_seq ?_)))
    refine swp_region T0_ok mixed (cs:=[(2,CallSpec.eq (s35 r (x70:Int)) [true,true])]) (kt:=[1,2,14,4,15,16]) (kh:=[0,8,5010,5011,5012,5013,5014]) (q:=True/\True/\((AV.agg (cRun r)=AV.agg (cRun r)/\iv (x70:Int)=iv (x70:Int)/\True)/\Triple Try.prog 35 (s35 r (x70:Int))/\fits r/\True /\ ∀ (i78:Env),True)/\True/\True/\True/\True/\True/\True) (st':=ASt.mk [(1,.ptr 0 []),(2,.ptr 8 []),(14,iv (x70:Int)),(4,.ptr 5010 []),(15,aInts (whereS r (x70:Int))),(16,iv (openE r (isFound r (x70:Int))))] [(0,.cells 25 (cRun r)),(8,.cells 62 [nilv,nilv,nilv,nilv,iv 0,iv 0,iv 0]),(5010,.cells 62 [.vec 5011,.vec 5012,.vec 5013,.vec 5014,iv 0,iv 0,iv 0]),(5011,.vec 37 2 (r.machines.length * r.plates.toNat) fun (k:Nat)=>cSpan (wAt r k)),(5012,.vec 37 2 r.plates.toNat fun (k:Nat)=>cSpan (oldS r (k:Int))),(5013,.vec 30 1 x70 fun (k:Nat)=>[aInts (whereS r (k:Int))]),(5014,.vec 3 1 r.machines.length fun (k:Nat)=>[iv (mixedS r (k:Int))])] 30232) (by kernel_rfl) ⟨tv,tv,⟨⟨rfl,rfl,tv⟩,(t35 (r) ((x70:Int))),hp.1,tv,(fun i78=>tv)⟩,tv,tv,tv,tv,tv,tv⟩ ?_
    refine swp_seq (swp_seq ?_)
    refine swp_region T0_ok mixed (cs:=[(13,CallSpec.eq (s52 (whereS r (x70:Int)) 0 ((↑(r.machines.length):Int) - 1)) [false,true,true])]) (kt:=[1,2,14,4,15,139]) (kh:=[0,8,5010,5011,5012,5013,5014]) (q:=True/\True/\True/\((!!decide (openE r (isFound r (x70:Int))=0))->(True/\True)/\True)/\((!!decide (openE r (isFound r (x70:Int))=0))->(((!!decide (openE r (isFound r (x70:Int))=0))->(!!decide (openE r (isFound r (x70:Int))=0))=true)/\True)/\True)/\((!!decide (openE r (isFound r (x70:Int))=0))->(((!!decide (openE r (isFound r (x70:Int))=0))->(!!decide (openE r (isFound r (x70:Int))=0))=true)/\True/\True)/\True)/\(((!decide (openE r (isFound r (x70:Int))=0))->True)/\((!decide (openE r (isFound r (x70:Int))=0))=false->(!!decide (openE r (isFound r (x70:Int))=0))=true))/\True/\((!bif !decide (openE r (isFound r (x70:Int))=0) then true else decide ((↑((whereS r (x70:Int)).length):Int)=0))=true->(True/\True)/\True)/\((!bif !decide (openE r (isFound r (x70:Int))=0) then true else decide ((↑((whereS r (x70:Int)).length):Int)=0))=true->(True/\True)/\True)/\((!bif !decide (openE r (isFound r (x70:Int))=0) then true else decide ((↑((whereS r (x70:Int)).length):Int)=0))=true->(((!bif !decide (openE r (isFound r (x70:Int))=0) then true else decide ((↑((whereS r (x70:Int)).length):Int)=0))=true->(!bif !decide (openE r (isFound r (x70:Int))=0) then true else decide ((↑((whereS r (x70:Int)).length):Int)=0))=true)/\True)/\True)/\((!bif !decide (openE r (isFound r (x70:Int))=0) then true else decide ((↑((whereS r (x70:Int)).length):Int)=0))=true->(((!bif !decide (openE r (isFound r (x70:Int))=0) then true else decide ((↑((whereS r (x70:Int)).length):Int)=0))=true->(!bif !decide (openE r (isFound r (x70:Int))=0) then true else decide ((↑((whereS r (x70:Int)).length):Int)=0))=true)/\True)/\True)/\((!bif !decide (openE r (isFound r (x70:Int))=0) then true else decide ((↑((whereS r (x70:Int)).length):Int)=0))=true->(((!bif !decide (openE r (isFound r (x70:Int))=0) then true else decide ((↑((whereS r (x70:Int)).length):Int)=0))=true->(!bif !decide (openE r (isFound r (x70:Int))=0) then true else decide ((↑((whereS r (x70:Int)).length):Int)=0))=true)/\True/\True)/\inI ((↑(r.machines.length):Int) - 1))/\((!bif !decide (openE r (isFound r (x70:Int))=0) then true else decide ((↑((whereS r (x70:Int)).length):Int)=0))=true->(True/\((!bif !decide (openE r (isFound r (x70:Int))=0) then true else decide ((↑((whereS r (x70:Int)).length):Int)=0))=true->(!bif !decide (openE r (isFound r (x70:Int))=0) then true else decide ((↑((whereS r (x70:Int)).length):Int)=0))=true)/\True/\((!bif !decide (openE r (isFound r (x70:Int))=0) then true else decide ((↑((whereS r (x70:Int)).length):Int)=0))=true->(!bif !decide (openE r (isFound r (x70:Int))=0) then true else decide ((↑((whereS r (x70:Int)).length):Int)=0))=true)/\True)/\((1=1/\(whereS r (x70:Int)).length=(whereS r (x70:Int)).length /\ ∀ (i97:Nat),i97 < (whereS r (x70:Int)).length -> [iv ((whereS r (x70:Int)).getD i97 0)] = [iv ((whereS r (x70:Int)).getD i97 0)])/\iv 0=iv 0/\iv ((↑(r.machines.length):Int) - 1)=iv ((↑(r.machines.length):Int) - 1)/\True)/\Triple Try.prog 52 (s52 (whereS r (x70:Int)) 0 ((↑(r.machines.length):Int) - 1))/\(whereS r (x70:Int)).length<=1125899906842624/\True /\ ∀ (i99:Env),True)/\((!bif !decide (openE r (isFound r (x70:Int))=0) then true else decide ((↑((whereS r (x70:Int)).length):Int)=0))=true->(((!bif !decide (openE r (isFound r (x70:Int))=0) then true else decide ((↑((whereS r (x70:Int)).length):Int)=0))=true->(!bif !decide (openE r (isFound r (x70:Int))=0) then true else decide ((↑((whereS r (x70:Int)).length):Int)=0))=true)/\True)/\True)/\(((bif !decide (openE r (isFound r (x70:Int))=0) then true else decide ((↑((whereS r (x70:Int)).length):Int)=0))=true->True)/\((bif !decide (openE r (isFound r (x70:Int))=0) then true else decide ((↑((whereS r (x70:Int)).length):Int)=0))=false->(!bif !decide (openE r (isFound r (x70:Int))=0) then true else decide ((↑((whereS r (x70:Int)).length):Int)=0))=true))/\True) (st':=ASt.mk [(1,.ptr 0 []),(2,.ptr 8 []),(14,iv (x70:Int)),(4,.ptr 5010 []),(15,aInts (whereS r (x70:Int))),(139,bv (bif bif !decide (openE r (isFound r (x70:Int))=0) then true else decide ((↑((whereS r (x70:Int)).length):Int)=0) then true else !rising (whereS r (x70:Int)) 0 ((↑(r.machines.length):Int) - 1)))] [(0,.cells 25 (cRun r)),(8,.cells 62 [nilv,nilv,nilv,nilv,iv 0,iv 0,iv 0]),(5010,.cells 62 [.vec 5011,.vec 5012,.vec 5013,.vec 5014,iv 0,iv 0,iv 0]),(5011,.vec 37 2 (r.machines.length * r.plates.toNat) fun (k:Nat)=>cSpan (wAt r k)),(5012,.vec 37 2 r.plates.toNat fun (k:Nat)=>cSpan (oldS r (k:Int))),(5013,.vec 30 1 x70 fun (k:Nat)=>[aInts (whereS r (k:Int))]),(5014,.vec 3 1 r.machines.length fun (k:Nat)=>[iv (mixedS r (k:Int))])] 30360) (by kernel_rfl) ⟨tv,tv,tv,(fun h79=>⟨⟨tv,tv⟩,tv⟩),(fun h80=>⟨⟨(fun h81=>h80),tv⟩,tv⟩),(fun h82=>⟨⟨(fun h83=>h82),tv,tv⟩,tv⟩),⟨(fun h84=>tv),(fun h85=>(o43 hp x0 hx0 h1 x50 hx50 h55 x70 hx70 h77 h85))⟩,tv,(fun h86=>⟨⟨tv,tv⟩,tv⟩),(fun h87=>⟨⟨tv,tv⟩,tv⟩),(fun h88=>⟨⟨(fun h89=>h88),tv⟩,tv⟩),(fun h90=>⟨⟨(fun h91=>h90),tv⟩,tv⟩),(fun h92=>⟨⟨(fun h93=>h92),tv,tv⟩,(o44 hp x0 hx0 h1 x50 hx50 h55 x70 hx70 h77 h92)⟩),(fun h94=>⟨⟨tv,(fun h95=>h94),tv,(fun h96=>h94),tv⟩,⟨⟨rfl,rfl,(fun i97=>(fun h98=>rfl))⟩,rfl,rfl,tv⟩,(t52 (whereS r (x70:Int)) (0) ((↑(r.machines.length):Int) - 1)),(o45 hp x0 hx0 h1 x50 hx50 h55 x70 hx70 h77 h94),tv,(fun i99=>tv)⟩),(fun h100=>⟨⟨(fun h101=>h100),tv⟩,tv⟩),⟨(fun h102=>tv),(fun h103=>(o46 hp x0 hx0 h1 x50 hx50 h55 x70 hx70 h77 h103))⟩,tv⟩ ?_
    refine swp_cond (bif bif !decide (openE r (isFound r (x70:Int))=0) then true else decide ((↑((whereS r (x70:Int)).length):Int)=0) then true else !rising (whereS r (x70:Int)) 0 ((↑(r.machines.length):Int) - 1)) (by kernel_rfl) (fun h=>by cases (h.symm.trans (o47 hp x0 hx0 h1 x50 hx50 h55 x70 hx70 h77))) (fun _ => ?_)
    refine swp_skip ?_
    refine sR (kt:=[1,2,14,4]) (kh:=[0,8,5010,5011,5012,30392,5014]) (q:=True/\True/\True/\True/\x70 + 1<=65536/\True/\True/\True) (st':=ASt.mk [(1,.ptr 0 []),(2,.ptr 8 []),(14,iv (x70:Int)),(4,.ptr 5010 [])] [(0,.cells 25 (cRun r)),(8,.cells 62 [nilv,nilv,nilv,nilv,iv 0,iv 0,iv 0]),(5010,.cells 62 [.vec 5011,.vec 5012,.vec 30392,.vec 5014,iv 0,iv 0,iv 0]),(5011,.vec 37 2 (r.machines.length * r.plates.toNat) fun (k:Nat)=>cSpan (wAt r k)),(5012,.vec 37 2 r.plates.toNat fun (k:Nat)=>cSpan (oldS r (k:Int))),(30392,.vec 30 1 (x70 + 1) (catF x70 (fun (k:Nat)=>[aInts (whereS r (k:Int))]) fun (j:Nat)=>List.getD [[.sl 1 (whereS r (x70:Int)).length fun (i:Nat)=>[iv ((whereS r (x70:Int)).getD i 0)]]] j (TI.za ti30))),(5014,.vec 3 1 r.machines.length fun (k:Nat)=>[iv (mixedS r (k:Int))])] 30416) (by kernel_rfl) ⟨tv,tv,tv,tv,(o48 hp x0 hx0 h1 x50 hx50 h55 x70 hx70 h77),tv,tv,tv⟩ ?_
    refine sR (kt:=[1,2,14,4]) (kh:=[0,8,5010,5011,5012,30392,5014]) (q:=True/\inI ((x70:Int) + 1)/\True/\True) (st':=ASt.mk [(1,.ptr 0 []),(2,.ptr 8 []),(14,iv ((x70:Int) + 1)),(4,.ptr 5010 [])] [(0,.cells 25 (cRun r)),(8,.cells 62 [nilv,nilv,nilv,nilv,iv 0,iv 0,iv 0]),(5010,.cells 62 [.vec 5011,.vec 5012,.vec 30392,.vec 5014,iv 0,iv 0,iv 0]),(5011,.vec 37 2 (r.machines.length * r.plates.toNat) fun (k:Nat)=>cSpan (wAt r k)),(5012,.vec 37 2 r.plates.toNat fun (k:Nat)=>cSpan (oldS r (k:Int))),(30392,.vec 30 1 (x70 + 1) (catF x70 (fun (k:Nat)=>[aInts (whereS r (k:Int))]) fun (j:Nat)=>List.getD [[.sl 1 (whereS r (x70:Int)).length fun (i:Nat)=>[iv ((whereS r (x70:Int)).getD i 0)]]] j (TI.za ti30))),(5014,.vec 3 1 r.machines.length fun (k:Nat)=>[iv (mixedS r (k:Int))])] 30440) (by kernel_rfl) ⟨tv,(o49 hp x0 hx0 h1 x50 hx50 h55 x70 hx70 h77),tv,tv⟩ ?_
    exact loop_next (Hint.ann (h47d r) [(1,AV.ptr 0 []),(2,AV.ptr 8 [])] [(0,OB.cells 25 (cRun r)),(8,OB.cells 62 [nilv,nilv,nilv,nilv,iv 0,iv 0,iv 0])] 30128) x70 (ent_q hE [] [(0,.same 0),(8,.same 8),(5010,.same 5010),(5011,.same 5011),(5012,.same 5012),(5013,.same 30392),(5014,.same 5014)] [] [0,8,5011,5012,5014] (((some (Src.same 0)=some (Src.same 0)/\nilP = [])/\(some (Src.same 8)=some (Src.same 8)/\nilP = [])/\(iv ((x70:Int) + 1)=iv (↑(x70 + 1):Int)/\nilN = [])/\(some (Src.same 5010)=some (Src.same 5010)/\nilP = [])/\True)/\((OB.cells 25 (cRun r)=OB.cells 25 (cRun r)/\true=true)/\(OB.cells 62 [nilv,nilv,nilv,nilv,iv 0,iv 0,iv 0]=OB.cells 62 [nilv,nilv,nilv,nilv,iv 0,iv 0,iv 0]/\true=true)/\(62=62/\(some (Src.same 5011)=some (Src.same 5011)/\some (Src.same 5012)=some (Src.same 5012)/\some (Src.same 30392)=some (Src.same 30392)/\some (Src.same 5014)=some (Src.same 5014)/\(iv 0=iv 0/\nilN = [])/\(iv 0=iv 0/\nilN = [])/\(iv 0=iv 0/\nilN = [])/\True)/\true=true)/\(((OB.vec 37 2 (r.machines.length * r.plates.toNat) fun (k:Nat)=>cSpan (wAt r k))=OB.vec 37 2 (r.machines.length * r.plates.toNat) fun (k:Nat)=>cSpan (wAt r k))/\true=true)/\(((OB.vec 37 2 r.plates.toNat fun (k:Nat)=>cSpan (oldS r (k:Int)))=OB.vec 37 2 r.plates.toNat fun (k:Nat)=>cSpan (oldS r (k:Int)))/\true=true)/\(30=30/\1=1/\x70 + 1=x70 + 1 /\ ∀ (i104:Nat),i104 < x70 + 1->catF x70 (fun (k:Nat)=>[aInts (whereS r (k:Int))]) (fun (j:Nat)=>List.getD [[AV.sl 1 (whereS r (x70:Int)).length fun (i:Nat)=>[iv ((whereS r (x70:Int)).getD i 0)]]] j (TI.za ti30)) i104 = [aInts (whereS r (i104:Int))])/\(((OB.vec 3 1 r.machines.length fun (k:Nat)=>[iv (mixedS r (k:Int))])=OB.vec 3 1 r.machines.length fun (k:Nat)=>[iv (mixedS r (k:Int))])/\true=true)/\True)/\T2) (by kernel_rfl) (by kernel_rfl) ⟨⟨⟨rfl,rfl⟩,⟨rfl,rfl⟩,⟨(congrArg iv (o50 hp x0 hx0 h1 x50 hx50 h55 x70 hx70 h77)),rfl⟩,⟨rfl,rfl⟩,tv⟩,⟨⟨rfl,rfl⟩,⟨rfl,rfl⟩,⟨rfl,⟨rfl,rfl,rfl,rfl,⟨rfl,rfl⟩,⟨rfl,rfl⟩,⟨rfl,rfl⟩,tv⟩,rfl⟩,⟨rfl,rfl⟩,⟨rfl,rfl⟩,⟨rfl,rfl,rfl,(fun i104=>(fun h105=>(o51 hp x0 hx0 h1 x50 hx50 h55 x70 hx70 h77 i104 h105)))⟩,⟨rfl,rfl⟩,tv⟩,rfl,rfl⟩) (o52 hp x0 hx0 h1 x50 hx50 h55 x70 hx70 h77) (o53 hp x0 hx0 h1 x50 hx50 h55 x70 hx70 h77)
   ·refine swp_exit (swp_seq ?_)
    refine swp_region T0_ok mixed (cs:=[(1,CallSpec.eq (s27 r) [true])]) (kt:=[1,2,4,17,18]) (kh:=[0,8,5010,30208,5011,5012,5013,5014]) (q:=True/\((AV.agg (cRun r)=AV.agg (cRun r)/\True)/\Triple Try.prog 27 (s27 r)/\fits r/\True /\ ∀ (i106:Env),True)/\True/\True/\True/\True/\True/\True/\True) (st':=ASt.mk [(1,.ptr 0 []),(2,.ptr 8 []),(4,.ptr 5010 []),(17,.ptr 30208 []),(18,iv (openE r true))] [(0,.cells 25 (cRun r)),(8,.cells 62 [nilv,nilv,nilv,nilv,iv 0,iv 0,iv 0]),(5010,.cells 62 [.vec 5011,.vec 5012,.vec 5013,.vec 5014,iv 0,iv 0,iv 0]),(30208,.cells 37 (cSpan (mixesS r))),(5011,.vec 37 2 (r.machines.length * r.plates.toNat) fun (k:Nat)=>cSpan (wAt r k)),(5012,.vec 37 2 r.plates.toNat fun (k:Nat)=>cSpan (oldS r (k:Int))),(5013,.vec 30 1 x70 fun (k:Nat)=>[aInts (whereS r (k:Int))]),(5014,.vec 3 1 r.machines.length fun (k:Nat)=>[iv (mixedS r (k:Int))])] 30232) (by kernel_rfl) ⟨tv,⟨⟨rfl,tv⟩,(t27 (r)),hp.1,tv,(fun i106=>tv)⟩,tv,tv,tv,tv,tv,tv,tv⟩ ?_
    refine swp_seq ?_
    refine swp_region T0_ok mixed (cs:=[(1,CallSpec.eq (s22 r) [true])]) (kt:=[1,2,4,17,18,19,20]) (kh:=[0,8,5010,30208,5011,5012,5013,5014]) (q:=True/\((AV.agg (cRun r)=AV.agg (cRun r)/\True)/\Triple Try.prog 22 (s22 r)/\fits r/\True /\ ∀ (i107:Env),True)/\True/\True/\True/\True/\True/\True) (st':=ASt.mk [(1,.ptr 0 []),(2,.ptr 8 []),(4,.ptr 5010 []),(17,.ptr 30208 []),(18,iv (openE r true)),(19,iv (fewP r)),(20,iv (openE r true))] [(0,.cells 25 (cRun r)),(8,.cells 62 [nilv,nilv,nilv,nilv,iv 0,iv 0,iv 0]),(5010,.cells 62 [.vec 5011,.vec 5012,.vec 5013,.vec 5014,iv 0,iv 0,iv 0]),(30208,.cells 37 (cSpan (mixesS r))),(5011,.vec 37 2 (r.machines.length * r.plates.toNat) fun (k:Nat)=>cSpan (wAt r k)),(5012,.vec 37 2 r.plates.toNat fun (k:Nat)=>cSpan (oldS r (k:Int))),(5013,.vec 30 1 x70 fun (k:Nat)=>[aInts (whereS r (k:Int))]),(5014,.vec 3 1 r.machines.length fun (k:Nat)=>[iv (mixedS r (k:Int))])] 30288) (by kernel_rfl) ⟨tv,⟨⟨rfl,tv⟩,(t22 (r)),hp.1,tv,(fun i107=>tv)⟩,tv,tv,tv,tv,tv,tv⟩ ?_
    refine swp_seq ?_
    refine sR (kt:=[1,2,4,17,18,19,20]) (kh:=[0,8,5010,30208,5011,5012,5013,5014]) (q:=True/\True/\True/\True/\True/\True/\True) (st':=ASt.mk [(1,.ptr 0 []),(2,.ptr 8 []),(4,.ptr 5010 []),(17,.ptr 30208 []),(18,iv (openE r true)),(19,iv (fewP r)),(20,iv (openE r true))] [(0,.cells 25 (cRun r)),(8,.cells 62 [nilv,nilv,nilv,nilv,iv 0,iv 0,iv 0]),(5010,.cells 62 [.vec 5011,.vec 5012,.vec 5013,.vec 5014,iv (mixesS r).lo,iv (mixesS r).hi,iv (fewP r)]),(30208,.cells 37 (cSpan (mixesS r))),(5011,.vec 37 2 (r.machines.length * r.plates.toNat) fun (k:Nat)=>cSpan (wAt r k)),(5012,.vec 37 2 r.plates.toNat fun (k:Nat)=>cSpan (oldS r (k:Int))),(5013,.vec 30 1 x70 fun (k:Nat)=>[aInts (whereS r (k:Int))]),(5014,.vec 3 1 r.machines.length fun (k:Nat)=>[iv (mixedS r (k:Int))])] 30336) (by kernel_rfl) ⟨tv,tv,tv,tv,tv,tv,tv⟩ ?_
    refine swp_seq ?_
    refine swp_region T0_ok mixed (cs:=[(9,CallSpec.eq (s29 0 810) [true,true]),(10,CallSpec.eq (s28 (mixesS r) (Span.mk 0 810)) [true,true])]) (kt:=[2,3]) (kh:=[8,5011,5012,5013,5014]) (q:=True/\True/\True/\True/\(decide (openE r true=0)=true->(True/\True)/\True)/\(decide (openE r true=0)=true->((decide (openE r true=0)=true->decide (openE r true=0)=true)/\True/\True)/\True)/\((decide (openE r true=0)=true->decide (openE r true=0)=true)/\(decide (openE r true=0)=false->True))/\True/\((bif decide (openE r true=0) then decide (openE r true=0) else false)=true->(True/\True)/\True)/\((bif decide (openE r true=0) then decide (openE r true=0) else false)=true->(True/\True/\True/\True)/\(iv 0=iv 0/\iv 810=iv 810/\True)/\Triple Try.prog 29 (s29 0 810)/\True/\True /\ ∀ (i115:Env),True)/\((bif decide (openE r true=0) then decide (openE r true=0) else false)=true->(True/\((bif decide (openE r true=0) then decide (openE r true=0) else false)=true->(bif decide (openE r true=0) then decide (openE r true=0) else false)=true)/\((bif decide (openE r true=0) then decide (openE r true=0) else false)=true->(bif decide (openE r true=0) then decide (openE r true=0) else false)=true)/\True)/\(AV.agg (cSpan (mixesS r))=AV.agg (cSpan (mixesS r))/\AV.agg (cSpan (Span.mk 0 810))=AV.agg (cSpan (Span.mk 0 810))/\True)/\Triple Try.prog 28 (s28 (mixesS r) (Span.mk 0 810))/\True/\True /\ ∀ (i119:Env),True)/\(((bif decide (openE r true=0) then decide (openE r true=0) else false)=true->(bif decide (openE r true=0) then decide (openE r true=0) else false)=true)/\((bif decide (openE r true=0) then decide (openE r true=0) else false)=false->True))/\True/\((bif bif decide (openE r true=0) then decide (openE r true=0) else false then inside (mixesS r) (Span.mk 0 810) else false)=true->(True/\True)/\True)/\((bif bif decide (openE r true=0) then decide (openE r true=0) else false then inside (mixesS r) (Span.mk 0 810) else false)=true->(((bif bif decide (openE r true=0) then decide (openE r true=0) else false then inside (mixesS r) (Span.mk 0 810) else false)=true->(bif bif decide (openE r true=0) then decide (openE r true=0) else false then inside (mixesS r) (Span.mk 0 810) else false)=true)/\True/\True)/\True)/\(((bif bif decide (openE r true=0) then decide (openE r true=0) else false then inside (mixesS r) (Span.mk 0 810) else false)=true->(bif bif decide (openE r true=0) then decide (openE r true=0) else false then inside (mixesS r) (Span.mk 0 810) else false)=true)/\((bif bif decide (openE r true=0) then decide (openE r true=0) else false then inside (mixesS r) (Span.mk 0 810) else false)=false->True))/\True/\((bif bif bif decide (openE r true=0) then decide (openE r true=0) else false then inside (mixesS r) (Span.mk 0 810) else false then decide (0<=fewP r) else false)=true->(True/\True)/\True)/\((bif bif bif decide (openE r true=0) then decide (openE r true=0) else false then inside (mixesS r) (Span.mk 0 810) else false then decide (0<=fewP r) else false)=true->(True/\True)/\True)/\((bif bif bif decide (openE r true=0) then decide (openE r true=0) else false then inside (mixesS r) (Span.mk 0 810) else false then decide (0<=fewP r) else false)=true->(((bif bif bif decide (openE r true=0) then decide (openE r true=0) else false then inside (mixesS r) (Span.mk 0 810) else false then decide (0<=fewP r) else false)=true->(bif bif bif decide (openE r true=0) then decide (openE r true=0) else false then inside (mixesS r) (Span.mk 0 810) else false then decide (0<=fewP r) else false)=true)/\True)/\True)/\((bif bif bif decide (openE r true=0) then decide (openE r true=0) else false then inside (mixesS r) (Span.mk 0 810) else false then decide (0<=fewP r) else false)=true->(((bif bif bif decide (openE r true=0) then decide (openE r true=0) else false then inside (mixesS r) (Span.mk 0 810) else false then decide (0<=fewP r) else false)=true->(bif bif bif decide (openE r true=0) then decide (openE r true=0) else false then inside (mixesS r) (Span.mk 0 810) else false then decide (0<=fewP r) else false)=true)/\True)/\True)/\((bif bif bif decide (openE r true=0) then decide (openE r true=0) else false then inside (mixesS r) (Span.mk 0 810) else false then decide (0<=fewP r) else false)=true->(((bif bif bif decide (openE r true=0) then decide (openE r true=0) else false then inside (mixesS r) (Span.mk 0 810) else false then decide (0<=fewP r) else false)=true->(bif bif bif decide (openE r true=0) then decide (openE r true=0) else false then inside (mixesS r) (Span.mk 0 810) else false then decide (0<=fewP r) else false)=true)/\((bif bif bif decide (openE r true=0) then decide (openE r true=0) else false then inside (mixesS r) (Span.mk 0 810) else false then decide (0<=fewP r) else false)=true->(bif bif bif decide (openE r true=0) then decide (openE r true=0) else false then inside (mixesS r) (Span.mk 0 810) else false then decide (0<=fewP r) else false)=true)/\True)/\True)/\(((bif bif bif decide (openE r true=0) then decide (openE r true=0) else false then inside (mixesS r) (Span.mk 0 810) else false then decide (0<=fewP r) else false)=true->(bif bif bif decide (openE r true=0) then decide (openE r true=0) else false then inside (mixesS r) (Span.mk 0 810) else false then decide (0<=fewP r) else false)=true)/\((bif bif bif decide (openE r true=0) then decide (openE r true=0) else false then inside (mixesS r) (Span.mk 0 810) else false then decide (0<=fewP r) else false)=false->True))/\True/\True/\True) (st':=ASt.mk [(2,.ptr 8 []),(3,bv (bif bif bif bif decide (openE r true=0) then decide (openE r true=0) else false then inside (mixesS r) (Span.mk 0 810) else false then decide (0<=fewP r) else false then decide (fewP r<=(↑(r.machines.length):Int)) else false))] [(8,.cells 62 [.vec 5011,.vec 5012,.vec 5013,.vec 5014,iv (mixesS r).lo,iv (mixesS r).hi,iv (fewP r)]),(5011,.vec 37 2 (r.machines.length * r.plates.toNat) fun (k:Nat)=>cSpan (wAt r k)),(5012,.vec 37 2 r.plates.toNat fun (k:Nat)=>cSpan (oldS r (k:Int))),(5013,.vec 30 1 x70 fun (k:Nat)=>[aInts (whereS r (k:Int))]),(5014,.vec 3 1 r.machines.length fun (k:Nat)=>[iv (mixedS r (k:Int))])] 30536) (by kernel_rfl) ⟨tv,tv,tv,tv,(fun h108=>⟨⟨tv,tv⟩,tv⟩),(fun h109=>⟨⟨(fun h110=>h109),tv,tv⟩,tv⟩),⟨(fun h111=>h111),(fun h112=>tv)⟩,tv,(fun h113=>⟨⟨tv,tv⟩,tv⟩),(fun h114=>⟨⟨tv,tv,tv,tv⟩,⟨rfl,rfl,tv⟩,(t29 (0) (810)),tv,tv,(fun i115=>tv)⟩),(fun h116=>⟨⟨tv,(fun h117=>h116),(fun h118=>h116),tv⟩,⟨rfl,rfl,tv⟩,(t28 (mixesS r) (Span.mk 0 810)),tv,tv,(fun i119=>tv)⟩),⟨(fun h120=>h120),(fun h121=>tv)⟩,tv,(fun h122=>⟨⟨tv,tv⟩,tv⟩),(fun h123=>⟨⟨(fun h124=>h123),tv,tv⟩,tv⟩),⟨(fun h125=>h125),(fun h126=>tv)⟩,tv,(fun h127=>⟨⟨tv,tv⟩,tv⟩),(fun h128=>⟨⟨tv,tv⟩,tv⟩),(fun h129=>⟨⟨(fun h130=>h129),tv⟩,tv⟩),(fun h131=>⟨⟨(fun h132=>h131),tv⟩,tv⟩),(fun h133=>⟨⟨(fun h134=>h133),(fun h135=>h133),tv⟩,tv⟩),⟨(fun h136=>h136),(fun h137=>tv)⟩,tv,tv,tv⟩ ?_
    refine swp_ret ?_
    exact ret_q [5011,5012,5013,5014] ((True/\True/\True)/\(((2=2/\r.machines.length * r.plates.toNat=(Tld.when (toldOf r)).length /\ ∀ (i138:Nat),i138 < (Tld.when (toldOf r)).length->cSpan (wAt r i138) = [iv ((Tld.when (toldOf r)).getD i138 default).lo,iv ((Tld.when (toldOf r)).getD i138 default).hi])/\(2=2/\r.plates.toNat=(Tld.old (toldOf r)).length /\ ∀ (i140:Nat),i140 < (Tld.old (toldOf r)).length->cSpan (oldS r (i140:Int)) = [iv ((Tld.old (toldOf r)).getD i140 default).lo,iv ((Tld.old (toldOf r)).getD i140 default).hi])/\(1=1/\x70=(Tld.whr (toldOf r)).length /\ ∀ (i142:Nat),i142 < (Tld.whr (toldOf r)).length -> [aInts (whereS r (i142:Int))] = [aInts ((Tld.whr (toldOf r)).getD i142 [])])/\(1=1/\r.machines.length=(Tld.mixed (toldOf r)).length /\ ∀ (i144:Nat),i144 < (Tld.mixed (toldOf r)).length -> [iv (mixedS r (i144:Int))] = [iv ((Tld.mixed (toldOf r)).getD i144 0)])/\(iv (mixesS r).lo=iv (Tld.mixes (toldOf r)).lo/\nilN = [])/\(iv (mixesS r).hi=iv (Tld.mixes (toldOf r)).hi/\nilN = [])/\(iv (fewP r)=iv (Tld.fewest (toldOf r))/\nilN = [])/\True)/\(bv (bif bif bif bif decide (openE r true=0) then decide (openE r true=0) else false then inside (mixesS r) (Span.mk 0 810) else false then decide (0<=fewP r) else false then decide (fewP r<=(↑(r.machines.length):Int)) else false)=bv true/\nilN = [])/\True)/\T3) (by kernel_rfl) ⟨⟨tv,tv,tv⟩,⟨⟨⟨rfl,(o54 hp x0 hx0 h1 x50 hx50 h55 x70 hx70 h77),(fun i138=>(fun h139=>(o55 hp x0 hx0 h1 x50 hx50 h55 x70 hx70 h77 i138 h139)))⟩,⟨rfl,(o56 hp x0 hx0 h1 x50 hx50 h55 x70 hx70 h77),(fun i140=>(fun h141=>(o57 hp x0 hx0 h1 x50 hx50 h55 x70 hx70 h77 i140 h141)))⟩,⟨rfl,(o58 hp x0 hx0 h1 x50 hx50 h55 x70 hx70 h77),(fun i142=>(fun h143=>(o59 hp x0 hx0 h1 x50 hx50 h55 x70 hx70 h77 i142 h143)))⟩,⟨rfl,(o60 hp x0 hx0 h1 x50 hx50 h55 x70 hx70 h77),(fun i144=>(fun h145=>(o61 hp x0 hx0 h1 x50 hx50 h55 x70 hx70 h77 i144 h145)))⟩,⟨(congrArg iv (o62 hp x0 hx0 h1 x50 hx50 h55 x70 hx70 h77)),rfl⟩,⟨(congrArg iv (o63 hp x0 hx0 h1 x50 hx50 h55 x70 hx70 h77)),rfl⟩,⟨(congrArg iv (o64 hp x0 hx0 h1 x50 hx50 h55 x70 hx70 h77)),rfl⟩,tv⟩,⟨(congrArg bv (o65 hp x0 hx0 h1 x50 hx50 h55 x70 hx70 h77)),rfl⟩,tv⟩,rfl,rfl,rfl⟩
theorem tell_cells (r:Run) (m k:Nat) (h:(k:Int) < r.plates):[iv (whenS r m k).lo,iv (whenS r m k).hi]=cSpan (wAt r (m * r.plates.toNat + k)):=by rw [wAt_idx r h]; rfl
theorem t47 (r:Run):Triple Try.prog 47 (s47 r):=by
 apply w47
 case o65 =>
  intro hp
  have T:=(tellF hp.2.1 hp.2.2).one
  (repeat intro _)
  have h1:=mixes_in T
  have h2:=few_val0 T
  rw [one_open T rfl]
  simp [inside,h1,h2]
 all_goals (first | ((repeat intro _) <;> (try simp only [v0,v1,v2,v3,v4,v5,v6,v7,v8,v9,inI,fits,Go.Sh.small] at *) <;> first | (exact rfl) | omega | exact vz | (simp_all; done) | (simp_all; omega)) | skip)
 all_goals (intro hp; have T:=(tellF hp.2.1 hp.2.2).one; have hpl:=T.ok.plates; have hml:=T.ok.machines; have hfl:=T.ok.found; intro x hx hl; simp only [decide_eq_true_eq,decide_eq_false_iff_not] at hl)
 case o29 =>
  have e:x=r.machines.length:=by omega
  rw [e]
 case o9=>intro y hy h _; have:=(T.ok.mach x (by omega)).1; simp only [decide_eq_true_eq] at h; omega
 case o11 =>
  intro y hy h
  simp only [decide_eq_true_eq] at h
  have h1:=when_in T (m:=x) (p:=y) (by omega) h
  unfold chg at h1
  rw [h1,one_open T (whenIs_nat T.ok (m:=x) (p:=y) (by omega) h)]; rfl
 case o12=>intro y hy h; have:=Nat.mul_le_mul (show x<=3 by omega) (show r.plates.toNat<=3 by omega); omega
 case o13 | o35=>intro y hy h; exact ⟨by omega,by omega⟩
 case o16=>intro y hy h i hi; simp only [decide_eq_true_eq] at h; exact catF_idx (fun k=>cSpan (wAt r k)) (tell_cells r x y h) hi
 case o20 =>
  intro y hy h
  rw [mixed_range T (m:=x) (by omega),one_open T (isMachine_nat (m:=x) (by omega))]; rfl
 case o21 | o34=>(repeat intro _); omega
 case o24 =>
  intro y hy h
  simp only [decide_eq_false_iff_not] at h
  rw [Nat.add_mul,Nat.one_mul]; omega
 case o25=>intro y hy h i hi; exact catF_idx (fun k:Nat=>[iv (mixedS r k)]) rfl hi
 case o33 =>
  intro y hy h
  simp only [decide_eq_true_eq] at h
  have h1:=old_in T (p:=y) h
  rw [one_open T (isPlate_nat T.ok h)]
  simp [inside,h1]
 case o37=>intro y hy h i hi; exact catF_idx (fun k:Nat=>cSpan (oldS r k)) rfl hi
 all_goals (intro y hy hyl z hz hzl; simp only [decide_eq_true_eq,decide_eq_false_iff_not] at hyl hzl)
 case o45=>intro _; have:=where_facts T (i:=z) (by omega); omega
 case o47 =>
  obtain ⟨h1,h2,h3⟩:=where_facts T (i:=z) (by omega)
  rw [one_open T (isFound_nat (i:=z) (by omega)),h3]
  have:¬ ((whereS r z).length:Int)=0:=by omega
  simp [h1]
 case o48=>omega
 case o51=>intro i hi; exact catF_idx (fun k:Nat=>[aInts (whereS r k)]) rfl hi
 case o54=>simp only [toldOf,tWhen_len]
 case o55=>intro i hi; simp only [toldOf,tWhen_len] at hi ⊢; rw [tWhen_get _ hi]; rfl
 case o56=>simp only [toldOf,tOld_len]
 case o57=>intro i hi; simp only [toldOf,tOld_len] at hi ⊢; rw [tOld_get _ hi]; rfl
 case o58=>simp only [toldOf,tWhr_len]; omega
 case o59=>intro i hi; simp only [toldOf,tWhr_len] at hi ⊢; rw [tWhr_get _ hi]
 case o60=>simp only [toldOf,tMix_len]
 case o61=>intro i hi; simp only [toldOf,tMix_len] at hi ⊢; rw [tMix_get _ hi]
abbrev q48_1 (x:Tld) (y:Tld) (C:Prop):Prop:=Clear x y->C
abbrev q48_2 (x:Tld) (y:Tld) (C:Nat->Prop):Prop:=q48_1 x y (∀ (x70:Nat),x70<=(Tld.when x).length->decide ((x70:Int) < (↑((Tld.when x).length):Int))=true->C x70)
abbrev q48_3 (x:Tld) (y:Tld) (C:Nat->Prop):Prop:=q48_1 x y (∀ (x70:Nat),x70<=(Tld.when x).length->decide ((x70:Int) < (↑((Tld.when x).length):Int))=false->C x70)
abbrev q48_4 (x:Tld) (y:Tld) (C:Nat->Nat->Prop):Prop:=q48_3 x y fun x70 => ∀ (x73:Nat),x73<=(Tld.old x).length->decide ((x73:Int) < (↑((Tld.old x).length):Int))=true->C x70 x73
abbrev q48_5 (x:Tld) (y:Tld) (C:Nat->Nat->Prop):Prop:=q48_3 x y fun x70 => ∀ (x73:Nat),x73<=(Tld.old x).length->decide ((x73:Int) < (↑((Tld.old x).length):Int))=false->C x70 x73
abbrev q48_6 (x:Tld) (y:Tld) (C:Nat->Nat->Nat->Prop):Prop:=q48_5 x y fun x70 x73 => ∀ (x76:Nat),x76<=(Tld.mixed x).length->decide ((x76:Int) < (↑((Tld.mixed x).length):Int))=true->C x70 x73 x76
abbrev q48_7 (x:Tld) (y:Tld) (C:Nat->Nat->Nat->Prop):Prop:=q48_5 x y fun x70 x73 => ∀ (x76:Nat),x76<=(Tld.mixed x).length->decide ((x76:Int) < (↑((Tld.mixed x).length):Int))=false->C x70 x73 x76
abbrev q48_8 (x:Tld) (y:Tld) (C:Nat->Nat->Nat->Nat->Prop):Prop:=q48_7 x y fun x70 x73 x76 => ∀ (x101:Nat),x101<=(Tld.whr y).length->decide ((x101:Int) < (↑((Tld.whr y).length):Int))=true->C x70 x73 x76 x101
abbrev q48_9 (x:Tld) (y:Tld) (C:Nat->Nat->Nat->Nat->Nat->Prop):Prop:=q48_8 x y fun x70 x73 x76 x101 => ∀ (x103:Nat),x103<=((Tld.whr x).getD x101 []).length->C x70 x73 x76 x101 x103
abbrev q48_10 (x:Tld) (y:Tld) (C:Nat->Nat->Nat->Nat->Nat->Prop):Prop:=q48_9 x y fun x70 x73 x76 x101 x103=>decide ((x103:Int) < (↑(((Tld.whr x).getD x101 []).length):Int))=true->C x70 x73 x76 x101 x103
abbrev q48_11 (x:Tld) (y:Tld) (C:Nat->Nat->Nat->Nat->Nat->Prop):Prop:=q48_9 x y fun x70 x73 x76 x101 x103=>decide ((x103:Int) < (↑(((Tld.whr x).getD x101 []).length):Int))=false->C x70 x73 x76 x101 x103
theorem w48 (x:Tld) (y:Tld)
 (o0:q48_1 x y ((!decide ((↑((Tld.when x).length):Int)=(↑((Tld.when y).length):Int)))=false->(!!decide ((↑((Tld.when x).length):Int)=(↑((Tld.when y).length):Int)))=true))
 (o1:q48_1 x y ((bif !decide ((↑((Tld.when x).length):Int)=(↑((Tld.when y).length):Int)) then true else !decide ((↑((Tld.old x).length):Int)=(↑((Tld.old y).length):Int)))=false->(!bif !decide ((↑((Tld.when x).length):Int)=(↑((Tld.when y).length):Int)) then true else !decide ((↑((Tld.old x).length):Int)=(↑((Tld.old y).length):Int)))=true))
 (o2:q48_1 x y ((bif bif !decide ((↑((Tld.when x).length):Int)=(↑((Tld.when y).length):Int)) then true else !decide ((↑((Tld.old x).length):Int)=(↑((Tld.old y).length):Int)) then true else !decide ((↑((Tld.mixed x).length):Int)=(↑((Tld.mixed y).length):Int)))=false->(!bif bif !decide ((↑((Tld.when x).length):Int)=(↑((Tld.when y).length):Int)) then true else !decide ((↑((Tld.old x).length):Int)=(↑((Tld.old y).length):Int)) then true else !decide ((↑((Tld.mixed x).length):Int)=(↑((Tld.mixed y).length):Int)))=true))
 (o3:q48_1 x y ((bif bif bif !decide ((↑((Tld.when x).length):Int)=(↑((Tld.when y).length):Int)) then true else !decide ((↑((Tld.old x).length):Int)=(↑((Tld.old y).length):Int)) then true else !decide ((↑((Tld.mixed x).length):Int)=(↑((Tld.mixed y).length):Int)) then true else decide ((↑((Tld.whr x).length):Int) < (↑((Tld.whr y).length):Int)))=false->(!bif bif bif !decide ((↑((Tld.when x).length):Int)=(↑((Tld.when y).length):Int)) then true else !decide ((↑((Tld.old x).length):Int)=(↑((Tld.old y).length):Int)) then true else !decide ((↑((Tld.mixed x).length):Int)=(↑((Tld.mixed y).length):Int)) then true else decide ((↑((Tld.whr x).length):Int) < (↑((Tld.whr y).length):Int)))=true))
 (o4:q48_1 x y ((bif bif bif bif !decide ((↑((Tld.when x).length):Int)=(↑((Tld.when y).length):Int)) then true else !decide ((↑((Tld.old x).length):Int)=(↑((Tld.old y).length):Int)) then true else !decide ((↑((Tld.mixed x).length):Int)=(↑((Tld.mixed y).length):Int)) then true else decide ((↑((Tld.whr x).length):Int) < (↑((Tld.whr y).length):Int)) then true else !inside (Tld.mixes x) (Tld.mixes y))=false->(!bif bif bif bif !decide ((↑((Tld.when x).length):Int)=(↑((Tld.when y).length):Int)) then true else !decide ((↑((Tld.old x).length):Int)=(↑((Tld.old y).length):Int)) then true else !decide ((↑((Tld.mixed x).length):Int)=(↑((Tld.mixed y).length):Int)) then true else decide ((↑((Tld.whr x).length):Int) < (↑((Tld.whr y).length):Int)) then true else !inside (Tld.mixes x) (Tld.mixes y))=true))
 (o5:q48_1 x y ((bif bif bif bif bif !decide ((↑((Tld.when x).length):Int)=(↑((Tld.when y).length):Int)) then true else !decide ((↑((Tld.old x).length):Int)=(↑((Tld.old y).length):Int)) then true else !decide ((↑((Tld.mixed x).length):Int)=(↑((Tld.mixed y).length):Int)) then true else decide ((↑((Tld.whr x).length):Int) < (↑((Tld.whr y).length):Int)) then true else !inside (Tld.mixes x) (Tld.mixes y) then true else decide (Tld.fewest x < Tld.fewest y))=false))
 (o6:q48_1 x y (0=(↑0:Int)))
 (o7:q48_1 x y (0<=List.length (Tld.when x)))
 (o8:q48_2 x y fun x70=>0<=(x70:Int))
 (o9:q48_2 x y fun x70=>(x70:Int) < (↑((Tld.when x).length):Int))
 (o10:q48_2 x y fun x70=>0<=(x70:Int))
 (o11:q48_2 x y fun x70=>(x70:Int) < (↑((Tld.when y).length):Int))
 (o12:q48_2 x y fun x70=>(!inside ((Tld.when x).getD x70 default) ((Tld.when y).getD x70 default))=false)
 (o13:q48_2 x y fun x70=>inI ((x70:Int) + 1))
 (o14:q48_2 x y fun x70=>(x70:Int) + 1=(↑(x70 + 1):Int))
 (o15:q48_2 x y fun x70=>x70 + 1<=(Tld.when x).length)
 (o16:q48_2 x y fun x70=>(Tld.when x).length - (x70 + 1) < (Tld.when x).length - x70)
 (o17:q48_3 x y fun x70=>0=(↑0:Int))
 (o18:q48_3 x y fun x70=>0<=(Tld.old x).length)
 (o19:q48_4 x y fun x70 x73=>0<=(x73:Int))
 (o20:q48_4 x y fun x70 x73=>(x73:Int) < (↑((Tld.old x).length):Int))
 (o21:q48_4 x y fun x70 x73=>0<=(x73:Int))
 (o22:q48_4 x y fun x70 x73=>(x73:Int) < (↑((Tld.old y).length):Int))
 (o23:q48_4 x y fun x70 x73=>(!inside ((Tld.old x).getD x73 default) ((Tld.old y).getD x73 default))=false)
 (o24:q48_4 x y fun x70 x73=>inI ((x73:Int) + 1))
 (o25:q48_4 x y fun x70 x73=>(x73:Int) + 1=(↑(x73 + 1):Int))
 (o26:q48_4 x y fun x70 x73=>x73 + 1<=(Tld.old x).length)
 (o27:q48_4 x y fun x70 x73=>(Tld.old x).length - (x73 + 1) < (Tld.old x).length - x73)
 (o28:q48_5 x y fun x70 x73=>0=(↑0:Int))
 (o29:q48_5 x y fun x70 x73=>0<=(Tld.mixed x).length)
 (o30:q48_6 x y fun x70 x73 x76=>0<=(x76:Int))
 (o31:q48_6 x y fun x70 x73 x76=>(x76:Int) < (↑((Tld.mixed y).length):Int))
 (o32:q48_6 x y fun x70 x73 x76=>(!decide ((Tld.mixed y).getD x76 0=3))->0<=(x76:Int))
 (o33:q48_6 x y fun x70 x73 x76=>(!decide ((Tld.mixed y).getD x76 0=3))->(x76:Int) < (↑((Tld.mixed x).length):Int))
 (o34:q48_6 x y fun x70 x73 x76=>(!decide ((Tld.mixed y).getD x76 0=3))->0<=(x76:Int))
 (o35:q48_6 x y fun x70 x73 x76=>(!decide ((Tld.mixed y).getD x76 0=3))->(x76:Int) < (↑((Tld.mixed y).length):Int))
 (o36:q48_6 x y fun x70 x73 x76=>(bif !decide ((Tld.mixed y).getD x76 0=3) then !decide ((Tld.mixed x).getD x76 0=(Tld.mixed y).getD x76 0) else false)=false)
 (o37:q48_6 x y fun x70 x73 x76=>inI ((x76:Int) + 1))
 (o38:q48_6 x y fun x70 x73 x76=>(x76:Int) + 1=(↑(x76 + 1):Int))
 (o39:q48_6 x y fun x70 x73 x76=>x76 + 1<=(Tld.mixed x).length)
 (o40:q48_6 x y fun x70 x73 x76=>(Tld.mixed x).length - (x76 + 1) < (Tld.mixed x).length - x76)
 (o41:q48_7 x y fun x70 x73 x76=>0=(↑0:Int))
 (o42:q48_7 x y fun x70 x73 x76=>0<=(Tld.whr y).length)
 (o43:q48_8 x y fun x70 x73 x76 x101=>0=(↑0:Int))
 (o44:q48_8 x y fun x70 x73 x76 x101=>0<=((Tld.whr x).getD x101 []).length)
 (o45:q48_9 x y fun x70 x73 x76 x101 x103=>0<=(x101:Int))
 (o46:q48_9 x y fun x70 x73 x76 x101 x103=>(x101:Int) < (↑((Tld.whr x).length):Int))
 (o47:q48_10 x y fun x70 x73 x76 x101 x103=>0<=(x101:Int))
 (o48:q48_10 x y fun x70 x73 x76 x101 x103=>(x101:Int) < (↑((Tld.whr y).length):Int))
 (o49:q48_10 x y fun x70 x73 x76 x101 x103=>0<=(x101:Int))
 (o50:q48_10 x y fun x70 x73 x76 x101 x103=>(x101:Int) < (↑((Tld.whr x).length):Int))
 (o51:q48_10 x y fun x70 x73 x76 x101 x103=>0<=(x103:Int))
 (o52:q48_10 x y fun x70 x73 x76 x101 x103=>(x103:Int) < (↑(((Tld.whr x).getD x101 []).length):Int))
 (o53:q48_10 x y fun x70 x73 x76 x101 x103=>((Tld.whr y).getD x101 []).length<=1125899906842624)
 (o54:q48_10 x y fun x70 x73 x76 x101 x103=>(!isIn ((Tld.whr y).getD x101 []) (((Tld.whr x).getD x101 []).getD x103 0))=false)
 (o55:q48_10 x y fun x70 x73 x76 x101 x103=>inI ((x103:Int) + 1))
 (o56:q48_10 x y fun x70 x73 x76 x101 x103=>(x103:Int) + 1=(↑(x103 + 1):Int))
 (o57:q48_10 x y fun x70 x73 x76 x101 x103=>x103 + 1<=((Tld.whr x).getD x101 []).length)
 (o58:q48_10 x y fun x70 x73 x76 x101 x103=>((Tld.whr x).getD x101 []).length - (x103 + 1) < ((Tld.whr x).getD x101 []).length - x103)
 (o59:q48_11 x y fun x70 x73 x76 x101 x103=>inI ((x101:Int) + 1))
 (o60:q48_11 x y fun x70 x73 x76 x101 x103=>(x101:Int) + 1=(↑(x101 + 1):Int))
 (o61:q48_11 x y fun x70 x73 x76 x101 x103=>x101 + 1<=(Tld.whr y).length)
 (o62:q48_11 x y fun x70 x73 x76 x101 x103=>(Tld.whr y).length - (x101 + 1) < (Tld.whr y).length - x101) :
  Triple Try.prog 48 (s48 x y):=by
 refine triple_of Try.func48 rfl Try.call48 T0_ok _ rfl rfl rfl rfl (Nat.le_of_ble_eq_true (by kernel_rfl)) (fun _ _ _ _ h=>h) ?_
 intro hp C hC _ hE
 obtain ⟨P,w0,E0,av,hA⟩:=C
 subst hC
 refine swp_seq ?_
 refine sR (kt:=[2,3]) (kh:=[0,8]) (q:=True/\True/\True/\True) (st':=ASt.mk [(2,.ptr 0 []),(3,.ptr 8 [])] [(0,.cells 62 (cTld x)),(8,.cells 62 (cTld y))] 24) (by kernel_rfl) ⟨tv,tv,tv,tv⟩ ?_
 refine swp_seq (swp_seq ?_)
 refine swp_region T0_ok mixed (cs:=[(39,CallSpec.eq (s28 (Tld.mixes x) (Tld.mixes y)) [true,true])]) (kt:=[2,3,58]) (kh:=[0,8]) (q:=True/\True/\True/\True/\True/\True/\True/\True/\((!!decide ((↑((Tld.when x).length):Int)=(↑((Tld.when y).length):Int)))->(True/\True)/\True)/\((!!decide ((↑((Tld.when x).length):Int)=(↑((Tld.when y).length):Int)))->(((!!decide ((↑((Tld.when x).length):Int)=(↑((Tld.when y).length):Int)))->(!!decide ((↑((Tld.when x).length):Int)=(↑((Tld.when y).length):Int)))=true)/\True)/\True)/\((!!decide ((↑((Tld.when x).length):Int)=(↑((Tld.when y).length):Int)))->(((!!decide ((↑((Tld.when x).length):Int)=(↑((Tld.when y).length):Int)))->(!!decide ((↑((Tld.when x).length):Int)=(↑((Tld.when y).length):Int)))=true)/\True)/\True)/\((!!decide ((↑((Tld.when x).length):Int)=(↑((Tld.when y).length):Int)))->(True/\True)/\True)/\((!!decide ((↑((Tld.when x).length):Int)=(↑((Tld.when y).length):Int)))->(((!!decide ((↑((Tld.when x).length):Int)=(↑((Tld.when y).length):Int)))->(!!decide ((↑((Tld.when x).length):Int)=(↑((Tld.when y).length):Int)))=true)/\True)/\True)/\((!!decide ((↑((Tld.when x).length):Int)=(↑((Tld.when y).length):Int)))->(((!!decide ((↑((Tld.when x).length):Int)=(↑((Tld.when y).length):Int)))->(!!decide ((↑((Tld.when x).length):Int)=(↑((Tld.when y).length):Int)))=true)/\True)/\True)/\((!!decide ((↑((Tld.when x).length):Int)=(↑((Tld.when y).length):Int)))->(((!!decide ((↑((Tld.when x).length):Int)=(↑((Tld.when y).length):Int)))->(!!decide ((↑((Tld.when x).length):Int)=(↑((Tld.when y).length):Int)))=true)/\((!!decide ((↑((Tld.when x).length):Int)=(↑((Tld.when y).length):Int)))->(!!decide ((↑((Tld.when x).length):Int)=(↑((Tld.when y).length):Int)))=true)/\True)/\True)/\(((!decide ((↑((Tld.when x).length):Int)=(↑((Tld.when y).length):Int)))->True)/\((!decide ((↑((Tld.when x).length):Int)=(↑((Tld.when y).length):Int)))=false->(!!decide ((↑((Tld.when x).length):Int)=(↑((Tld.when y).length):Int)))=true))/\True/\((!bif !decide ((↑((Tld.when x).length):Int)=(↑((Tld.when y).length):Int)) then true else !decide ((↑((Tld.old x).length):Int)=(↑((Tld.old y).length):Int)))=true->(True/\True)/\True)/\((!bif !decide ((↑((Tld.when x).length):Int)=(↑((Tld.when y).length):Int)) then true else !decide ((↑((Tld.old x).length):Int)=(↑((Tld.old y).length):Int)))=true->(((!bif !decide ((↑((Tld.when x).length):Int)=(↑((Tld.when y).length):Int)) then true else !decide ((↑((Tld.old x).length):Int)=(↑((Tld.old y).length):Int)))=true->(!bif !decide ((↑((Tld.when x).length):Int)=(↑((Tld.when y).length):Int)) then true else !decide ((↑((Tld.old x).length):Int)=(↑((Tld.old y).length):Int)))=true)/\True)/\True)/\((!bif !decide ((↑((Tld.when x).length):Int)=(↑((Tld.when y).length):Int)) then true else !decide ((↑((Tld.old x).length):Int)=(↑((Tld.old y).length):Int)))=true->(((!bif !decide ((↑((Tld.when x).length):Int)=(↑((Tld.when y).length):Int)) then true else !decide ((↑((Tld.old x).length):Int)=(↑((Tld.old y).length):Int)))=true->(!bif !decide ((↑((Tld.when x).length):Int)=(↑((Tld.when y).length):Int)) then true else !decide ((↑((Tld.old x).length):Int)=(↑((Tld.old y).length):Int)))=true)/\True)/\True)/\((!bif !decide ((↑((Tld.when x).length):Int)=(↑((Tld.when y).length):Int)) then true else !decide ((↑((Tld.old x).length):Int)=(↑((Tld.old y).length):Int)))=true->(True/\True)/\True)/\((!bif !decide ((↑((Tld.when x).length):Int)=(↑((Tld.when y).length):Int)) then true else !decide ((↑((Tld.old x).length):Int)=(↑((Tld.old y).length):Int)))=true->(((!bif !decide ((↑((Tld.when x).length):Int)=(↑((Tld.when y).length):Int)) then true else !decide ((↑((Tld.old x).length):Int)=(↑((Tld.old y).length):Int)))=true->(!bif !decide ((↑((Tld.when x).length):Int)=(↑((Tld.when y).length):Int)) then true else !decide ((↑((Tld.old x).length):Int)=(↑((Tld.old y).length):Int)))=true)/\True)/\True)/\((!bif !decide ((↑((Tld.when x).length):Int)=(↑((Tld.when y).length):Int)) then true else !decide ((↑((Tld.old x).length):Int)=(↑((Tld.old y).length):Int)))=true->(((!bif !decide ((↑((Tld.when x).length):Int)=(↑((Tld.when y).length):Int)) then true else !decide ((↑((Tld.old x).length):Int)=(↑((Tld.old y).length):Int)))=true->(!bif !decide ((↑((Tld.when x).length):Int)=(↑((Tld.when y).length):Int)) then true else !decide ((↑((Tld.old x).length):Int)=(↑((Tld.old y).length):Int)))=true)/\True)/\True)/\((!bif !decide ((↑((Tld.when x).length):Int)=(↑((Tld.when y).length):Int)) then true else !decide ((↑((Tld.old x).length):Int)=(↑((Tld.old y).length):Int)))=true->(((!bif !decide ((↑((Tld.when x).length):Int)=(↑((Tld.when y).length):Int)) then true else !decide ((↑((Tld.old x).length):Int)=(↑((Tld.old y).length):Int)))=true->(!bif !decide ((↑((Tld.when x).length):Int)=(↑((Tld.when y).length):Int)) then true else !decide ((↑((Tld.old x).length):Int)=(↑((Tld.old y).length):Int)))=true)/\((!bif !decide ((↑((Tld.when x).length):Int)=(↑((Tld.when y).length):Int)) then true else !decide ((↑((Tld.old x).length):Int)=(↑((Tld.old y).length):Int)))=true->(!bif !decide ((↑((Tld.when x).length):Int)=(↑((Tld.when y).length):Int)) then true else !decide ((↑((Tld.old x).length):Int)=(↑((Tld.old y).length):Int)))=true)/\True)/\True)/\(((bif !decide ((↑((Tld.when x).length):Int)=(↑((Tld.when y).length):Int)) then true else !decide ((↑((Tld.old x).length):Int)=(↑((Tld.old y).length):Int)))=true->True)/\((bif !decide ((↑((Tld.when x).length):Int)=(↑((Tld.when y).length):Int)) then true else !decide ((↑((Tld.old x).length):Int)=(↑((Tld.old y).length):Int)))=false->(!bif !decide ((↑((Tld.when x).length):Int)=(↑((Tld.when y).length):Int)) then true else !decide ((↑((Tld.old x).length):Int)=(↑((Tld.old y).length):Int)))=true))/\True/\((!bif bif !decide ((↑((Tld.when x).length):Int)=(↑((Tld.when y).length):Int)) then true else !decide ((↑((Tld.old x).length):Int)=(↑((Tld.old y).length):Int)) then true else !decide ((↑((Tld.mixed x).length):Int)=(↑((Tld.mixed y).length):Int)))=true->(True/\True)/\True)/\((!bif bif !decide ((↑((Tld.when x).length):Int)=(↑((Tld.when y).length):Int)) then true else !decide ((↑((Tld.old x).length):Int)=(↑((Tld.old y).length):Int)) then true else !decide ((↑((Tld.mixed x).length):Int)=(↑((Tld.mixed y).length):Int)))=true->(((!bif bif !decide ((↑((Tld.when x).length):Int)=(↑((Tld.when y).length):Int)) then true else !decide ((↑((Tld.old x).length):Int)=(↑((Tld.old y).length):Int)) then true else !decide ((↑((Tld.mixed x).length):Int)=(↑((Tld.mixed y).length):Int)))=true->(!bif bif !decide ((↑((Tld.when x).length):Int)=(↑((Tld.when y).length):Int)) then true else !decide ((↑((Tld.old x).length):Int)=(↑((Tld.old y).length):Int)) then true else !decide ((↑((Tld.mixed x).length):Int)=(↑((Tld.mixed y).length):Int)))=true)/\True)/\True)/\((!bif bif !decide ((↑((Tld.when x).length):Int)=(↑((Tld.when y).length):Int)) then true else !decide ((↑((Tld.old x).length):Int)=(↑((Tld.old y).length):Int)) then true else !decide ((↑((Tld.mixed x).length):Int)=(↑((Tld.mixed y).length):Int)))=true->(((!bif bif !decide ((↑((Tld.when x).length):Int)=(↑((Tld.when y).length):Int)) then true else !decide ((↑((Tld.old x).length):Int)=(↑((Tld.old y).length):Int)) then true else !decide ((↑((Tld.mixed x).length):Int)=(↑((Tld.mixed y).length):Int)))=true->(!bif bif !decide ((↑((Tld.when x).length):Int)=(↑((Tld.when y).length):Int)) then true else !decide ((↑((Tld.old x).length):Int)=(↑((Tld.old y).length):Int)) then true else !decide ((↑((Tld.mixed x).length):Int)=(↑((Tld.mixed y).length):Int)))=true)/\True)/\True)/\((!bif bif !decide ((↑((Tld.when x).length):Int)=(↑((Tld.when y).length):Int)) then true else !decide ((↑((Tld.old x).length):Int)=(↑((Tld.old y).length):Int)) then true else !decide ((↑((Tld.mixed x).length):Int)=(↑((Tld.mixed y).length):Int)))=true->(True/\True)/\True)/\((!bif bif !decide ((↑((Tld.when x).length):Int)=(↑((Tld.when y).length):Int)) then true else !decide ((↑((Tld.old x).length):Int)=(↑((Tld.old y).length):Int)) then true else !decide ((↑((Tld.mixed x).length):Int)=(↑((Tld.mixed y).length):Int)))=true->(((!bif bif !decide ((↑((Tld.when x).length):Int)=(↑((Tld.when y).length):Int)) then true else !decide ((↑((Tld.old x).length):Int)=(↑((Tld.old y).length):Int)) then true else !decide ((↑((Tld.mixed x).length):Int)=(↑((Tld.mixed y).length):Int)))=true->(!bif bif !decide ((↑((Tld.when x).length):Int)=(↑((Tld.when y).length):Int)) then true else !decide ((↑((Tld.old x).length):Int)=(↑((Tld.old y).length):Int)) then true else !decide ((↑((Tld.mixed x).length):Int)=(↑((Tld.mixed y).length):Int)))=true)/\True)/\True)/\((!bif bif !decide ((↑((Tld.when x).length):Int)=(↑((Tld.when y).length):Int)) then true else !decide ((↑((Tld.old x).length):Int)=(↑((Tld.old y).length):Int)) then true else !decide ((↑((Tld.mixed x).length):Int)=(↑((Tld.mixed y).length):Int)))=true->(((!bif bif !decide ((↑((Tld.when x).length):Int)=(↑((Tld.when y).length):Int)) then true else !decide ((↑((Tld.old x).length):Int)=(↑((Tld.old y).length):Int)) then true else !decide ((↑((Tld.mixed x).length):Int)=(↑((Tld.mixed y).length):Int)))=true->(!bif bif !decide ((↑((Tld.when x).length):Int)=(↑((Tld.when y).length):Int)) then true else !decide ((↑((Tld.old x).length):Int)=(↑((Tld.old y).length):Int)) then true else !decide ((↑((Tld.mixed x).length):Int)=(↑((Tld.mixed y).length):Int)))=true)/\True)/\True)/\((!bif bif !decide ((↑((Tld.when x).length):Int)=(↑((Tld.when y).length):Int)) then true else !decide ((↑((Tld.old x).length):Int)=(↑((Tld.old y).length):Int)) then true else !decide ((↑((Tld.mixed x).length):Int)=(↑((Tld.mixed y).length):Int)))=true->(((!bif bif !decide ((↑((Tld.when x).length):Int)=(↑((Tld.when y).length):Int)) then true else !decide ((↑((Tld.old x).length):Int)=(↑((Tld.old y).length):Int)) then true else !decide ((↑((Tld.mixed x).length):Int)=(↑((Tld.mixed y).length):Int)))=true->(!bif bif !decide ((↑((Tld.when x).length):Int)=(↑((Tld.when y).length):Int)) then true else !decide ((↑((Tld.old x).length):Int)=(↑((Tld.old y).length):Int)) then true else !decide ((↑((Tld.mixed x).length):Int)=(↑((Tld.mixed y).length):Int)))=true)/\((!bif bif !decide ((↑((Tld.when x).length):Int)=(↑((Tld.when y).length):Int)) then true else !decide ((↑((Tld.old x).length):Int)=(↑((Tld.old y).length):Int)) then true else !decide ((↑((Tld.mixed x).length):Int)=(↑((Tld.mixed y).length):Int)))=true->(!bif bif !decide ((↑((Tld.when x).length):Int)=(↑((Tld.when y).length):Int)) then true else !decide ((↑((Tld.old x).length):Int)=(↑((Tld.old y).length):Int)) then true else !decide ((↑((Tld.mixed x).length):Int)=(↑((Tld.mixed y).length):Int)))=true)/\True)/\True)/\(((bif bif !decide ((↑((Tld.when x).length):Int)=(↑((Tld.when y).length):Int)) then true else !decide ((↑((Tld.old x).length):Int)=(↑((Tld.old y).length):Int)) then true else !decide ((↑((Tld.mixed x).length):Int)=(↑((Tld.mixed y).length):Int)))=true->True)/\((bif bif !decide ((↑((Tld.when x).length):Int)=(↑((Tld.when y).length):Int)) then true else !decide ((↑((Tld.old x).length):Int)=(↑((Tld.old y).length):Int)) then true else !decide ((↑((Tld.mixed x).length):Int)=(↑((Tld.mixed y).length):Int)))=false->(!bif bif !decide ((↑((Tld.when x).length):Int)=(↑((Tld.when y).length):Int)) then true else !decide ((↑((Tld.old x).length):Int)=(↑((Tld.old y).length):Int)) then true else !decide ((↑((Tld.mixed x).length):Int)=(↑((Tld.mixed y).length):Int)))=true))/\True/\((!bif bif bif !decide ((↑((Tld.when x).length):Int)=(↑((Tld.when y).length):Int)) then true else !decide ((↑((Tld.old x).length):Int)=(↑((Tld.old y).length):Int)) then true else !decide ((↑((Tld.mixed x).length):Int)=(↑((Tld.mixed y).length):Int)) then true else decide ((↑((Tld.whr x).length):Int) < (↑((Tld.whr y).length):Int)))=true->(True/\True)/\True)/\((!bif bif bif !decide ((↑((Tld.when x).length):Int)=(↑((Tld.when y).length):Int)) then true else !decide ((↑((Tld.old x).length):Int)=(↑((Tld.old y).length):Int)) then true else !decide ((↑((Tld.mixed x).length):Int)=(↑((Tld.mixed y).length):Int)) then true else decide ((↑((Tld.whr x).length):Int) < (↑((Tld.whr y).length):Int)))=true->(((!bif bif bif !decide ((↑((Tld.when x).length):Int)=(↑((Tld.when y).length):Int)) then true else !decide ((↑((Tld.old x).length):Int)=(↑((Tld.old y).length):Int)) then true else !decide ((↑((Tld.mixed x).length):Int)=(↑((Tld.mixed y).length):Int)) then true else decide ((↑((Tld.whr x).length):Int) < (↑((Tld.whr y).length):Int)))=true->(!bif bif bif !decide ((↑((Tld.when x).length):Int)=(↑((Tld.when y).length):Int)) then true else !decide ((↑((Tld.old x).length):Int)=(↑((Tld.old y).length):Int)) then true else !decide ((↑((Tld.mixed x).length):Int)=(↑((Tld.mixed y).length):Int)) then true else decide ((↑((Tld.whr x).length):Int) < (↑((Tld.whr y).length):Int)))=true)/\True)/\True)/\((!bif bif bif !decide ((↑((Tld.when x).length):Int)=(↑((Tld.when y).length):Int)) then true else !decide ((↑((Tld.old x).length):Int)=(↑((Tld.old y).length):Int)) then true else !decide ((↑((Tld.mixed x).length):Int)=(↑((Tld.mixed y).length):Int)) then true else decide ((↑((Tld.whr x).length):Int) < (↑((Tld.whr y).length):Int)))=true->(True/\True)/\True)/\((!bif bif bif !decide ((↑((Tld.when x).length):Int)=(↑((Tld.when y).length):Int)) then true else !decide ((↑((Tld.old x).length):Int)=(↑((Tld.old y).length):Int)) then true else !decide ((↑((Tld.mixed x).length):Int)=(↑((Tld.mixed y).length):Int)) then true else decide ((↑((Tld.whr x).length):Int) < (↑((Tld.whr y).length):Int)))=true->(((!bif bif bif !decide ((↑((Tld.when x).length):Int)=(↑((Tld.when y).length):Int)) then true else !decide ((↑((Tld.old x).length):Int)=(↑((Tld.old y).length):Int)) then true else !decide ((↑((Tld.mixed x).length):Int)=(↑((Tld.mixed y).length):Int)) then true else decide ((↑((Tld.whr x).length):Int) < (↑((Tld.whr y).length):Int)))=true->(!bif bif bif !decide ((↑((Tld.when x).length):Int)=(↑((Tld.when y).length):Int)) then true else !decide ((↑((Tld.old x).length):Int)=(↑((Tld.old y).length):Int)) then true else !decide ((↑((Tld.mixed x).length):Int)=(↑((Tld.mixed y).length):Int)) then true else decide ((↑((Tld.whr x).length):Int) < (↑((Tld.whr y).length):Int)))=true)/\True)/\True)/\((!bif bif bif !decide ((↑((Tld.when x).length):Int)=(↑((Tld.when y).length):Int)) then true else !decide ((↑((Tld.old x).length):Int)=(↑((Tld.old y).length):Int)) then true else !decide ((↑((Tld.mixed x).length):Int)=(↑((Tld.mixed y).length):Int)) then true else decide ((↑((Tld.whr x).length):Int) < (↑((Tld.whr y).length):Int)))=true->(True/\((!bif bif bif !decide ((↑((Tld.when x).length):Int)=(↑((Tld.when y).length):Int)) then true else !decide ((↑((Tld.old x).length):Int)=(↑((Tld.old y).length):Int)) then true else !decide ((↑((Tld.mixed x).length):Int)=(↑((Tld.mixed y).length):Int)) then true else decide ((↑((Tld.whr x).length):Int) < (↑((Tld.whr y).length):Int)))=true->(!bif bif bif !decide ((↑((Tld.when x).length):Int)=(↑((Tld.when y).length):Int)) then true else !decide ((↑((Tld.old x).length):Int)=(↑((Tld.old y).length):Int)) then true else !decide ((↑((Tld.mixed x).length):Int)=(↑((Tld.mixed y).length):Int)) then true else decide ((↑((Tld.whr x).length):Int) < (↑((Tld.whr y).length):Int)))=true)/\((!bif bif bif !decide ((↑((Tld.when x).length):Int)=(↑((Tld.when y).length):Int)) then true else !decide ((↑((Tld.old x).length):Int)=(↑((Tld.old y).length):Int)) then true else !decide ((↑((Tld.mixed x).length):Int)=(↑((Tld.mixed y).length):Int)) then true else decide ((↑((Tld.whr x).length):Int) < (↑((Tld.whr y).length):Int)))=true->(!bif bif bif !decide ((↑((Tld.when x).length):Int)=(↑((Tld.when y).length):Int)) then true else !decide ((↑((Tld.old x).length):Int)=(↑((Tld.old y).length):Int)) then true else !decide ((↑((Tld.mixed x).length):Int)=(↑((Tld.mixed y).length):Int)) then true else decide ((↑((Tld.whr x).length):Int) < (↑((Tld.whr y).length):Int)))=true)/\True)/\(AV.agg (cSpan (Tld.mixes x))=AV.agg (cSpan (Tld.mixes x))/\AV.agg (cSpan (Tld.mixes y))=AV.agg (cSpan (Tld.mixes y))/\True)/\Triple Try.prog 28 (s28 (Tld.mixes x) (Tld.mixes y))/\True/\True /\ ∀ (i54:Env),True)/\((!bif bif bif !decide ((↑((Tld.when x).length):Int)=(↑((Tld.when y).length):Int)) then true else !decide ((↑((Tld.old x).length):Int)=(↑((Tld.old y).length):Int)) then true else !decide ((↑((Tld.mixed x).length):Int)=(↑((Tld.mixed y).length):Int)) then true else decide ((↑((Tld.whr x).length):Int) < (↑((Tld.whr y).length):Int)))=true->(((!bif bif bif !decide ((↑((Tld.when x).length):Int)=(↑((Tld.when y).length):Int)) then true else !decide ((↑((Tld.old x).length):Int)=(↑((Tld.old y).length):Int)) then true else !decide ((↑((Tld.mixed x).length):Int)=(↑((Tld.mixed y).length):Int)) then true else decide ((↑((Tld.whr x).length):Int) < (↑((Tld.whr y).length):Int)))=true->(!bif bif bif !decide ((↑((Tld.when x).length):Int)=(↑((Tld.when y).length):Int)) then true else !decide ((↑((Tld.old x).length):Int)=(↑((Tld.old y).length):Int)) then true else !decide ((↑((Tld.mixed x).length):Int)=(↑((Tld.mixed y).length):Int)) then true else decide ((↑((Tld.whr x).length):Int) < (↑((Tld.whr y).length):Int)))=true)/\True)/\True)/\(((bif bif bif !decide ((↑((Tld.when x).length):Int)=(↑((Tld.when y).length):Int)) then true else !decide ((↑((Tld.old x).length):Int)=(↑((Tld.old y).length):Int)) then true else !decide ((↑((Tld.mixed x).length):Int)=(↑((Tld.mixed y).length):Int)) then true else decide ((↑((Tld.whr x).length):Int) < (↑((Tld.whr y).length):Int)))=true->True)/\((bif bif bif !decide ((↑((Tld.when x).length):Int)=(↑((Tld.when y).length):Int)) then true else !decide ((↑((Tld.old x).length):Int)=(↑((Tld.old y).length):Int)) then true else !decide ((↑((Tld.mixed x).length):Int)=(↑((Tld.mixed y).length):Int)) then true else decide ((↑((Tld.whr x).length):Int) < (↑((Tld.whr y).length):Int)))=false->(!bif bif bif !decide ((↑((Tld.when x).length):Int)=(↑((Tld.when y).length):Int)) then true else !decide ((↑((Tld.old x).length):Int)=(↑((Tld.old y).length):Int)) then true else !decide ((↑((Tld.mixed x).length):Int)=(↑((Tld.mixed y).length):Int)) then true else decide ((↑((Tld.whr x).length):Int) < (↑((Tld.whr y).length):Int)))=true))/\True/\((!bif bif bif bif !decide ((↑((Tld.when x).length):Int)=(↑((Tld.when y).length):Int)) then true else !decide ((↑((Tld.old x).length):Int)=(↑((Tld.old y).length):Int)) then true else !decide ((↑((Tld.mixed x).length):Int)=(↑((Tld.mixed y).length):Int)) then true else decide ((↑((Tld.whr x).length):Int) < (↑((Tld.whr y).length):Int)) then true else !inside (Tld.mixes x) (Tld.mixes y))=true->(True/\True)/\True)/\((!bif bif bif bif !decide ((↑((Tld.when x).length):Int)=(↑((Tld.when y).length):Int)) then true else !decide ((↑((Tld.old x).length):Int)=(↑((Tld.old y).length):Int)) then true else !decide ((↑((Tld.mixed x).length):Int)=(↑((Tld.mixed y).length):Int)) then true else decide ((↑((Tld.whr x).length):Int) < (↑((Tld.whr y).length):Int)) then true else !inside (Tld.mixes x) (Tld.mixes y))=true->(((!bif bif bif bif !decide ((↑((Tld.when x).length):Int)=(↑((Tld.when y).length):Int)) then true else !decide ((↑((Tld.old x).length):Int)=(↑((Tld.old y).length):Int)) then true else !decide ((↑((Tld.mixed x).length):Int)=(↑((Tld.mixed y).length):Int)) then true else decide ((↑((Tld.whr x).length):Int) < (↑((Tld.whr y).length):Int)) then true else !inside (Tld.mixes x) (Tld.mixes y))=true->(!bif bif bif bif !decide ((↑((Tld.when x).length):Int)=(↑((Tld.when y).length):Int)) then true else !decide ((↑((Tld.old x).length):Int)=(↑((Tld.old y).length):Int)) then true else !decide ((↑((Tld.mixed x).length):Int)=(↑((Tld.mixed y).length):Int)) then true else decide ((↑((Tld.whr x).length):Int) < (↑((Tld.whr y).length):Int)) then true else !inside (Tld.mixes x) (Tld.mixes y))=true)/\True)/\True)/\((!bif bif bif bif !decide ((↑((Tld.when x).length):Int)=(↑((Tld.when y).length):Int)) then true else !decide ((↑((Tld.old x).length):Int)=(↑((Tld.old y).length):Int)) then true else !decide ((↑((Tld.mixed x).length):Int)=(↑((Tld.mixed y).length):Int)) then true else decide ((↑((Tld.whr x).length):Int) < (↑((Tld.whr y).length):Int)) then true else !inside (Tld.mixes x) (Tld.mixes y))=true->(True/\True)/\True)/\((!bif bif bif bif !decide ((↑((Tld.when x).length):Int)=(↑((Tld.when y).length):Int)) then true else !decide ((↑((Tld.old x).length):Int)=(↑((Tld.old y).length):Int)) then true else !decide ((↑((Tld.mixed x).length):Int)=(↑((Tld.mixed y).length):Int)) then true else decide ((↑((Tld.whr x).length):Int) < (↑((Tld.whr y).length):Int)) then true else !inside (Tld.mixes x) (Tld.mixes y))=true->(((!bif bif bif bif !decide ((↑((Tld.when x).length):Int)=(↑((Tld.when y).length):Int)) then true else !decide ((↑((Tld.old x).length):Int)=(↑((Tld.old y).length):Int)) then true else !decide ((↑((Tld.mixed x).length):Int)=(↑((Tld.mixed y).length):Int)) then true else decide ((↑((Tld.whr x).length):Int) < (↑((Tld.whr y).length):Int)) then true else !inside (Tld.mixes x) (Tld.mixes y))=true->(!bif bif bif bif !decide ((↑((Tld.when x).length):Int)=(↑((Tld.when y).length):Int)) then true else !decide ((↑((Tld.old x).length):Int)=(↑((Tld.old y).length):Int)) then true else !decide ((↑((Tld.mixed x).length):Int)=(↑((Tld.mixed y).length):Int)) then true else decide ((↑((Tld.whr x).length):Int) < (↑((Tld.whr y).length):Int)) then true else !inside (Tld.mixes x) (Tld.mixes y))=true)/\True)/\True)/\((!bif bif bif bif !decide ((↑((Tld.when x).length):Int)=(↑((Tld.when y).length):Int)) then true else !decide ((↑((Tld.old x).length):Int)=(↑((Tld.old y).length):Int)) then true else !decide ((↑((Tld.mixed x).length):Int)=(↑((Tld.mixed y).length):Int)) then true else decide ((↑((Tld.whr x).length):Int) < (↑((Tld.whr y).length):Int)) then true else !inside (Tld.mixes x) (Tld.mixes y))=true->(((!bif bif bif bif !decide ((↑((Tld.when x).length):Int)=(↑((Tld.when y).length):Int)) then true else !decide ((↑((Tld.old x).length):Int)=(↑((Tld.old y).length):Int)) then true else !decide ((↑((Tld.mixed x).length):Int)=(↑((Tld.mixed y).length):Int)) then true else decide ((↑((Tld.whr x).length):Int) < (↑((Tld.whr y).length):Int)) then true else !inside (Tld.mixes x) (Tld.mixes y))=true->(!bif bif bif bif !decide ((↑((Tld.when x).length):Int)=(↑((Tld.when y).length):Int)) then true else !decide ((↑((Tld.old x).length):Int)=(↑((Tld.old y).length):Int)) then true else !decide ((↑((Tld.mixed x).length):Int)=(↑((Tld.mixed y).length):Int)) then true else decide ((↑((Tld.whr x).length):Int) < (↑((Tld.whr y).length):Int)) then true else !inside (Tld.mixes x) (Tld.mixes y))=true)/\((!bif bif bif bif !decide ((↑((Tld.when x).length):Int)=(↑((Tld.when y).length):Int)) then true else !decide ((↑((Tld.old x).length):Int)=(↑((Tld.old y).length):Int)) then true else !decide ((↑((Tld.mixed x).length):Int)=(↑((Tld.mixed y).length):Int)) then true else decide ((↑((Tld.whr x).length):Int) < (↑((Tld.whr y).length):Int)) then true else !inside (Tld.mixes x) (Tld.mixes y))=true->(!bif bif bif bif !decide ((↑((Tld.when x).length):Int)=(↑((Tld.when y).length):Int)) then true else !decide ((↑((Tld.old x).length):Int)=(↑((Tld.old y).length):Int)) then true else !decide ((↑((Tld.mixed x).length):Int)=(↑((Tld.mixed y).length):Int)) then true else decide ((↑((Tld.whr x).length):Int) < (↑((Tld.whr y).length):Int)) then true else !inside (Tld.mixes x) (Tld.mixes y))=true)/\True)/\True)/\(((bif bif bif bif !decide ((↑((Tld.when x).length):Int)=(↑((Tld.when y).length):Int)) then true else !decide ((↑((Tld.old x).length):Int)=(↑((Tld.old y).length):Int)) then true else !decide ((↑((Tld.mixed x).length):Int)=(↑((Tld.mixed y).length):Int)) then true else decide ((↑((Tld.whr x).length):Int) < (↑((Tld.whr y).length):Int)) then true else !inside (Tld.mixes x) (Tld.mixes y))=true->True)/\((bif bif bif bif !decide ((↑((Tld.when x).length):Int)=(↑((Tld.when y).length):Int)) then true else !decide ((↑((Tld.old x).length):Int)=(↑((Tld.old y).length):Int)) then true else !decide ((↑((Tld.mixed x).length):Int)=(↑((Tld.mixed y).length):Int)) then true else decide ((↑((Tld.whr x).length):Int) < (↑((Tld.whr y).length):Int)) then true else !inside (Tld.mixes x) (Tld.mixes y))=false->(!bif bif bif bif !decide ((↑((Tld.when x).length):Int)=(↑((Tld.when y).length):Int)) then true else !decide ((↑((Tld.old x).length):Int)=(↑((Tld.old y).length):Int)) then true else !decide ((↑((Tld.mixed x).length):Int)=(↑((Tld.mixed y).length):Int)) then true else decide ((↑((Tld.whr x).length):Int) < (↑((Tld.whr y).length):Int)) then true else !inside (Tld.mixes x) (Tld.mixes y))=true))/\True) (st':=ASt.mk [(2,.ptr 0 []),(3,.ptr 8 []),(58,bv (bif bif bif bif bif !decide ((↑((Tld.when x).length):Int)=(↑((Tld.when y).length):Int)) then true else !decide ((↑((Tld.old x).length):Int)=(↑((Tld.old y).length):Int)) then true else !decide ((↑((Tld.mixed x).length):Int)=(↑((Tld.mixed y).length):Int)) then true else decide ((↑((Tld.whr x).length):Int) < (↑((Tld.whr y).length):Int)) then true else !inside (Tld.mixes x) (Tld.mixes y) then true else decide (Tld.fewest x < Tld.fewest y)))] [(0,.cells 62 (cTld x)),(8,.cells 62 (cTld y))] 416) (by kernel_rfl) ⟨tv,tv,tv,tv,tv,tv,tv,tv,(fun h0=>⟨⟨tv,tv⟩,tv⟩),(fun h1=>⟨⟨(fun h2=>h1),tv⟩,tv⟩),(fun h3=>⟨⟨(fun h4=>h3),tv⟩,tv⟩),(fun h5=>⟨⟨tv,tv⟩,tv⟩),(fun h6=>⟨⟨(fun h7=>h6),tv⟩,tv⟩),(fun h8=>⟨⟨(fun h9=>h8),tv⟩,tv⟩),(fun h10=>⟨⟨(fun h11=>h10),(fun h12=>h10),tv⟩,tv⟩),⟨(fun h13=>tv),(fun h14=>(o0 hp h14))⟩,tv,(fun h15=>⟨⟨tv,tv⟩,tv⟩),(fun h16=>⟨⟨(fun h17=>h16),tv⟩,tv⟩),(fun h18=>⟨⟨(fun h19=>h18),tv⟩,tv⟩),(fun h20=>⟨⟨tv,tv⟩,tv⟩),(fun h21=>⟨⟨(fun h22=>h21),tv⟩,tv⟩),(fun h23=>⟨⟨(fun h24=>h23),tv⟩,tv⟩),(fun h25=>⟨⟨(fun h26=>h25),(fun h27=>h25),tv⟩,tv⟩),⟨(fun h28=>tv),(fun h29=>(o1 hp h29))⟩,tv,(fun h30=>⟨⟨tv,tv⟩,tv⟩),(fun h31=>⟨⟨(fun h32=>h31),tv⟩,tv⟩),(fun h33=>⟨⟨(fun h34=>h33),tv⟩,tv⟩),(fun h35=>⟨⟨tv,tv⟩,tv⟩),(fun h36=>⟨⟨(fun h37=>h36),tv⟩,tv⟩),(fun h38=>⟨⟨(fun h39=>h38),tv⟩,tv⟩),(fun h40=>⟨⟨(fun h41=>h40),(fun h42=>h40),tv⟩,tv⟩),⟨(fun h43=>tv),(fun h44=>(o2 hp h44))⟩,tv,(fun h45=>⟨⟨tv,tv⟩,tv⟩),(fun h46=>⟨⟨(fun h47=>h46),tv⟩,tv⟩),(fun h48=>⟨⟨tv,tv⟩,tv⟩),(fun h49=>⟨⟨(fun h50=>h49),tv⟩,tv⟩),(fun h51=>⟨⟨tv,(fun h52=>h51),(fun h53=>h51),tv⟩,⟨rfl,rfl,tv⟩,(t28 (Tld.mixes x) (Tld.mixes y)),tv,tv,(fun i54=>tv)⟩),(fun h55=>⟨⟨(fun h56=>h55),tv⟩,tv⟩),⟨(fun h57=>tv),(fun h58=>(o3 hp h58))⟩,tv,(fun h59=>⟨⟨tv,tv⟩,tv⟩),(fun h60=>⟨⟨(fun h61=>h60),tv⟩,tv⟩),(fun h62=>⟨⟨tv,tv⟩,tv⟩),(fun h63=>⟨⟨(fun h64=>h63),tv⟩,tv⟩),(fun h65=>⟨⟨(fun h66=>h65),(fun h67=>h65),tv⟩,tv⟩),⟨(fun h68=>tv),(fun h69=>(o4 hp h69))⟩,tv⟩ ?_
 refine swp_cond (bif bif bif bif bif !decide ((↑((Tld.when x).length):Int)=(↑((Tld.when y).length):Int)) then true else !decide ((↑((Tld.old x).length):Int)=(↑((Tld.old y).length):Int)) then true else !decide ((↑((Tld.mixed x).length):Int)=(↑((Tld.mixed y).length):Int)) then true else decide ((↑((Tld.whr x).length):Int) < (↑((Tld.whr y).length):Int)) then true else !inside (Tld.mixes x) (Tld.mixes y) then true else decide (Tld.fewest x < Tld.fewest y)) (by kernel_rfl) (fun h=>by cases (h.symm.trans (o5 hp))) (fun _ => ?_)
 refine swp_skip (swp_seq (swp_seq ?_))
 refine sR (kt:=[2,3,5]) (kh:=[0,8]) (q:=True/\True) (st':=ASt.mk [(2,.ptr 0 []),(3,.ptr 8 []),(5,iv 0)] [(0,.cells 62 (cTld x)),(8,.cells 62 (cTld y))] 424) (by kernel_rfl) ⟨tv,tv⟩ ?_
 refine swp_block ?_
 refine swp_loopA (Hint.ann (h48a x y) [(2,AV.ptr 0 []),(3,AV.ptr 8 [])] [(0,OB.cells 62 (cTld x)),(8,OB.cells 62 (cTld y))] 10424) (ent_q hE [] [(0,.same 0),(8,.same 8)] [] [0,8] (((some (Src.same 0)=some (Src.same 0)/\nilP = [])/\(some (Src.same 8)=some (Src.same 8)/\nilP = [])/\(iv 0=iv (↑0:Int)/\nilN = [])/\True)/\((OB.cells 62 (cTld x)=OB.cells 62 (cTld x)/\true=true)/\(OB.cells 62 (cTld y)=OB.cells 62 (cTld y)/\true=true)/\True)/\T2) (by kernel_rfl) (by kernel_rfl) ⟨⟨⟨rfl,rfl⟩,⟨rfl,rfl⟩,⟨(congrArg iv (o6 hp)),rfl⟩,tv⟩,⟨⟨rfl,rfl⟩,⟨rfl,rfl⟩,tv⟩,rfl,rfl⟩) (o7 hp) (fun (x70:Nat) hx70 => ?_)
 refine swp_seq (swp_seq ?_)
 refine sR (kt:=[2,3,5,63]) (kh:=[0,8]) (q:=True/\True/\True/\True/\True/\True) (st':=ASt.mk [(2,.ptr 0 []),(3,.ptr 8 []),(5,iv (x70:Int)),(63,bv (decide ((x70:Int) < (↑((Tld.when x).length):Int))))] [(0,.cells 62 (cTld x)),(8,.cells 62 (cTld y))] 10464) (by kernel_rfl) ⟨tv,tv,tv,tv,tv,tv⟩ ?_
 refine swp_cond (decide ((x70:Int) < (↑((Tld.when x).length):Int))) (by kernel_rfl) (fun h71 => ?_) (fun h71 => ?_)
 ·refine swp_skip (swp_seq (swp_block (swp_seq ?_)))
  refine swp_region T0_ok mixed (cs:=[(10,CallSpec.eq (s28 ((Tld.when x).getD x70 default) ((Tld.when y).getD x70 default)) [true,true])]) (kt:=[2,3,5,77]) (kh:=[0,8]) (q:=True/\True/\True/\(0<=(x70:Int)/\(x70:Int) < (↑((Tld.when x).length):Int))/\True/\True/\True/\True/\(0<=(x70:Int)/\(x70:Int) < (↑((Tld.when y).length):Int))/\True/\((AV.agg (cSpan ((Tld.when x).getD x70 default))=AV.agg (cSpan ((Tld.when x).getD x70 default))/\AV.agg (cSpan ((Tld.when y).getD x70 default))=AV.agg (cSpan ((Tld.when y).getD x70 default))/\True)/\Triple Try.prog 28 (s28 ((Tld.when x).getD x70 default) ((Tld.when y).getD x70 default))/\True/\True /\ ∀ (i72:Env),True)/\True/\True) (st':=ASt.mk [(2,.ptr 0 []),(3,.ptr 8 []),(5,iv (x70:Int)),(77,bv !inside ((Tld.when x).getD x70 default) ((Tld.when y).getD x70 default))] [(0,.cells 62 (cTld x)),(8,.cells 62 (cTld y))] 10560) (by kernel_rfl) ⟨tv,tv,tv,⟨(o8 hp x70 hx70 h71),(o9 hp x70 hx70 h71)⟩,tv,tv,tv,tv,⟨(o10 hp x70 hx70 h71),(o11 hp x70 hx70 h71)⟩,tv,⟨⟨rfl,rfl,tv⟩,(t28 ((Tld.when x).getD x70 default) ((Tld.when y).getD x70 default)),tv,tv,(fun i72=>tv)⟩,tv,tv⟩ ?_
  refine swp_cond (!inside ((Tld.when x).getD x70 default) ((Tld.when y).getD x70 default)) (by kernel_rfl) (fun h=>by cases (h.symm.trans (o12 hp x70 hx70 h71))) (fun _ => ?_)
  refine swp_skip ?_
  refine sR (kt:=[2,3,5]) (kh:=[0,8]) (q:=True/\inI ((x70:Int) + 1)/\True/\True) (st':=ASt.mk [(2,.ptr 0 []),(3,.ptr 8 []),(5,iv ((x70:Int) + 1))] [(0,.cells 62 (cTld x)),(8,.cells 62 (cTld y))] 10584) (by kernel_rfl) ⟨tv,(o13 hp x70 hx70 h71),tv,tv⟩ ?_
  exact loop_next (Hint.ann (h48a x y) [(2,AV.ptr 0 []),(3,AV.ptr 8 [])] [(0,OB.cells 62 (cTld x)),(8,OB.cells 62 (cTld y))] 10424) x70 (ent_q hE [] [(0,.same 0),(8,.same 8)] [] [0,8] (((some (Src.same 0)=some (Src.same 0)/\nilP = [])/\(some (Src.same 8)=some (Src.same 8)/\nilP = [])/\(iv ((x70:Int) + 1)=iv (↑(x70 + 1):Int)/\nilN = [])/\True)/\((OB.cells 62 (cTld x)=OB.cells 62 (cTld x)/\true=true)/\(OB.cells 62 (cTld y)=OB.cells 62 (cTld y)/\true=true)/\True)/\T2) (by kernel_rfl) (by kernel_rfl) ⟨⟨⟨rfl,rfl⟩,⟨rfl,rfl⟩,⟨(congrArg iv (o14 hp x70 hx70 h71)),rfl⟩,tv⟩,⟨⟨rfl,rfl⟩,⟨rfl,rfl⟩,tv⟩,rfl,rfl⟩) (o15 hp x70 hx70 h71) (o16 hp x70 hx70 h71)
 ·refine swp_exit (swp_seq (swp_seq ?_))
  refine sR (kt:=[2,3,6]) (kh:=[0,8]) (q:=True/\True) (st':=ASt.mk [(2,.ptr 0 []),(3,.ptr 8 []),(6,iv 0)] [(0,.cells 62 (cTld x)),(8,.cells 62 (cTld y))] 10472) (by kernel_rfl) ⟨tv,tv⟩ ?_
  refine swp_block ?_
  refine swp_loopA (Hint.ann (h48b x y) [(2,AV.ptr 0 []),(3,AV.ptr 8 [])] [(0,OB.cells 62 (cTld x)),(8,OB.cells 62 (cTld y))] 20472) (ent_q hE [] [(0,.same 0),(8,.same 8)] [] [0,8] (((some (Src.same 0)=some (Src.same 0)/\nilP = [])/\(some (Src.same 8)=some (Src.same 8)/\nilP = [])/\(iv 0=iv (↑0:Int)/\nilN = [])/\True)/\((OB.cells 62 (cTld x)=OB.cells 62 (cTld x)/\true=true)/\(OB.cells 62 (cTld y)=OB.cells 62 (cTld y)/\true=true)/\True)/\T2) (by kernel_rfl) (by kernel_rfl) ⟨⟨⟨rfl,rfl⟩,⟨rfl,rfl⟩,⟨(congrArg iv (o17 hp x70 hx70 h71)),rfl⟩,tv⟩,⟨⟨rfl,rfl⟩,⟨rfl,rfl⟩,tv⟩,rfl,rfl⟩) (o18 hp x70 hx70 h71) (fun (x73:Nat) hx73 => ?_)
  refine swp_seq (swp_seq ?_)
  refine sR (kt:=[2,3,6,82]) (kh:=[0,8]) (q:=True/\True/\True/\True/\True/\True) (st':=ASt.mk [(2,.ptr 0 []),(3,.ptr 8 []),(6,iv (x73:Int)),(82,bv (decide ((x73:Int) < (↑((Tld.old x).length):Int))))] [(0,.cells 62 (cTld x)),(8,.cells 62 (cTld y))] 20512) (by kernel_rfl) ⟨tv,tv,tv,tv,tv,tv⟩ ?_
  refine swp_cond (decide ((x73:Int) < (↑((Tld.old x).length):Int))) (by kernel_rfl) (fun h74 => ?_) (fun h74 => ?_)
  ·refine swp_skip (swp_seq (swp_block (swp_seq ?_)))
   refine swp_region T0_ok mixed (cs:=[(10,CallSpec.eq (s28 ((Tld.old x).getD x73 default) ((Tld.old y).getD x73 default)) [true,true])]) (kt:=[2,3,6,96]) (kh:=[0,8]) (q:=True/\True/\True/\(0<=(x73:Int)/\(x73:Int) < (↑((Tld.old x).length):Int))/\True/\True/\True/\True/\(0<=(x73:Int)/\(x73:Int) < (↑((Tld.old y).length):Int))/\True/\((AV.agg (cSpan ((Tld.old x).getD x73 default))=AV.agg (cSpan ((Tld.old x).getD x73 default))/\AV.agg (cSpan ((Tld.old y).getD x73 default))=AV.agg (cSpan ((Tld.old y).getD x73 default))/\True)/\Triple Try.prog 28 (s28 ((Tld.old x).getD x73 default) ((Tld.old y).getD x73 default))/\True/\True /\ ∀ (i75:Env),True)/\True/\True) (st':=ASt.mk [(2,.ptr 0 []),(3,.ptr 8 []),(6,iv (x73:Int)),(96,bv !inside ((Tld.old x).getD x73 default) ((Tld.old y).getD x73 default))] [(0,.cells 62 (cTld x)),(8,.cells 62 (cTld y))] 20608) (by kernel_rfl) ⟨tv,tv,tv,⟨(o19 hp x70 hx70 h71 x73 hx73 h74),(o20 hp x70 hx70 h71 x73 hx73 h74)⟩,tv,tv,tv,tv,⟨(o21 hp x70 hx70 h71 x73 hx73 h74),(o22 hp x70 hx70 h71 x73 hx73 h74)⟩,tv,⟨⟨rfl,rfl,tv⟩,(t28 ((Tld.old x).getD x73 default) ((Tld.old y).getD x73 default)),tv,tv,(fun i75=>tv)⟩,tv,tv⟩ ?_
   refine swp_cond (!inside ((Tld.old x).getD x73 default) ((Tld.old y).getD x73 default)) (by kernel_rfl) (fun h=>by cases (h.symm.trans (o23 hp x70 hx70 h71 x73 hx73 h74))) (fun _ => ?_)
   refine swp_skip ?_
   refine sR (kt:=[2,3,6]) (kh:=[0,8]) (q:=True/\inI ((x73:Int) + 1)/\True/\True) (st':=ASt.mk [(2,.ptr 0 []),(3,.ptr 8 []),(6,iv ((x73:Int) + 1))] [(0,.cells 62 (cTld x)),(8,.cells 62 (cTld y))] 20632) (by kernel_rfl) ⟨tv,(o24 hp x70 hx70 h71 x73 hx73 h74),tv,tv⟩ ?_
   exact loop_next (Hint.ann (h48b x y) [(2,AV.ptr 0 []),(3,AV.ptr 8 [])] [(0,OB.cells 62 (cTld x)),(8,OB.cells 62 (cTld y))] 20472) x73 (ent_q hE [] [(0,.same 0),(8,.same 8)] [] [0,8] (((some (Src.same 0)=some (Src.same 0)/\nilP = [])/\(some (Src.same 8)=some (Src.same 8)/\nilP = [])/\(iv ((x73:Int) + 1)=iv (↑(x73 + 1):Int)/\nilN = [])/\True)/\((OB.cells 62 (cTld x)=OB.cells 62 (cTld x)/\true=true)/\(OB.cells 62 (cTld y)=OB.cells 62 (cTld y)/\true=true)/\True)/\T2) (by kernel_rfl) (by kernel_rfl) ⟨⟨⟨rfl,rfl⟩,⟨rfl,rfl⟩,⟨(congrArg iv (o25 hp x70 hx70 h71 x73 hx73 h74)),rfl⟩,tv⟩,⟨⟨rfl,rfl⟩,⟨rfl,rfl⟩,tv⟩,rfl,rfl⟩) (o26 hp x70 hx70 h71 x73 hx73 h74) (o27 hp x70 hx70 h71 x73 hx73 h74)
  ·refine swp_exit (swp_seq (swp_seq ?_))
   refine sR (kt:=[2,3,7]) (kh:=[0,8]) (q:=True/\True) (st':=ASt.mk [(2,.ptr 0 []),(3,.ptr 8 []),(7,iv 0)] [(0,.cells 62 (cTld x)),(8,.cells 62 (cTld y))] 20520) (by kernel_rfl) ⟨tv,tv⟩ ?_
   refine swp_block ?_
   refine swp_loopA (Hint.ann (h48c x y) [(2,AV.ptr 0 []),(3,AV.ptr 8 [])] [(0,OB.cells 62 (cTld x)),(8,OB.cells 62 (cTld y))] 30520) (ent_q hE [] [(0,.same 0),(8,.same 8)] [] [0,8] (((some (Src.same 0)=some (Src.same 0)/\nilP = [])/\(some (Src.same 8)=some (Src.same 8)/\nilP = [])/\(iv 0=iv (↑0:Int)/\nilN = [])/\True)/\((OB.cells 62 (cTld x)=OB.cells 62 (cTld x)/\true=true)/\(OB.cells 62 (cTld y)=OB.cells 62 (cTld y)/\true=true)/\True)/\T2) (by kernel_rfl) (by kernel_rfl) ⟨⟨⟨rfl,rfl⟩,⟨rfl,rfl⟩,⟨(congrArg iv (o28 hp x70 hx70 h71 x73 hx73 h74)),rfl⟩,tv⟩,⟨⟨rfl,rfl⟩,⟨rfl,rfl⟩,tv⟩,rfl,rfl⟩) (o29 hp x70 hx70 h71 x73 hx73 h74) (fun (x76:Nat) hx76 => ?_)
   refine swp_seq (swp_seq ?_)
   refine sR (kt:=[2,3,7,101]) (kh:=[0,8]) (q:=True/\True/\True/\True/\True/\True) (st':=ASt.mk [(2,.ptr 0 []),(3,.ptr 8 []),(7,iv (x76:Int)),(101,bv (decide ((x76:Int) < (↑((Tld.mixed x).length):Int))))] [(0,.cells 62 (cTld x)),(8,.cells 62 (cTld y))] 30560) (by kernel_rfl) ⟨tv,tv,tv,tv,tv,tv⟩ ?_
   refine swp_cond (decide ((x76:Int) < (↑((Tld.mixed x).length):Int))) (by kernel_rfl) (fun h77 => ?_) (fun h77 => ?_)
   ·refine swp_skip (swp_seq (swp_block (swp_seq ?_)))
    refine sR (kt:=[2,3,7,122]) (kh:=[0,8]) (q:=True/\True/\True/\(0<=(x76:Int)/\(x76:Int) < (↑((Tld.mixed y).length):Int))/\True/\True/\True/\((!decide ((Tld.mixed y).getD x76 0=3))->(True/\True)/\True)/\((!decide ((Tld.mixed y).getD x76 0=3))->(((!decide ((Tld.mixed y).getD x76 0=3))->(!decide ((Tld.mixed y).getD x76 0=3))=true)/\True)/\True)/\((!decide ((Tld.mixed y).getD x76 0=3))->(True/\True)/\True)/\((!decide ((Tld.mixed y).getD x76 0=3))->(((!decide ((Tld.mixed y).getD x76 0=3))->(!decide ((Tld.mixed y).getD x76 0=3))=true)/\((!decide ((Tld.mixed y).getD x76 0=3))->(!decide ((Tld.mixed y).getD x76 0=3))=true)/\True)/\0<=(x76:Int)/\(x76:Int) < (↑((Tld.mixed x).length):Int))/\((!decide ((Tld.mixed y).getD x76 0=3))->(((!decide ((Tld.mixed y).getD x76 0=3))->(!decide ((Tld.mixed y).getD x76 0=3))=true)/\True)/\True)/\((!decide ((Tld.mixed y).getD x76 0=3))->(True/\True)/\True)/\((!decide ((Tld.mixed y).getD x76 0=3))->(((!decide ((Tld.mixed y).getD x76 0=3))->(!decide ((Tld.mixed y).getD x76 0=3))=true)/\True)/\True)/\((!decide ((Tld.mixed y).getD x76 0=3))->(True/\True)/\True)/\((!decide ((Tld.mixed y).getD x76 0=3))->(((!decide ((Tld.mixed y).getD x76 0=3))->(!decide ((Tld.mixed y).getD x76 0=3))=true)/\((!decide ((Tld.mixed y).getD x76 0=3))->(!decide ((Tld.mixed y).getD x76 0=3))=true)/\True)/\0<=(x76:Int)/\(x76:Int) < (↑((Tld.mixed y).length):Int))/\((!decide ((Tld.mixed y).getD x76 0=3))->(((!decide ((Tld.mixed y).getD x76 0=3))->(!decide ((Tld.mixed y).getD x76 0=3))=true)/\True)/\True)/\((!decide ((Tld.mixed y).getD x76 0=3))->(((!decide ((Tld.mixed y).getD x76 0=3))->(!decide ((Tld.mixed y).getD x76 0=3))=true)/\((!decide ((Tld.mixed y).getD x76 0=3))->(!decide ((Tld.mixed y).getD x76 0=3))=true)/\True)/\True)/\(((!decide ((Tld.mixed y).getD x76 0=3))->(!decide ((Tld.mixed y).getD x76 0=3))=true)/\((!decide ((Tld.mixed y).getD x76 0=3))=false->True))/\True) (st':=ASt.mk [(2,.ptr 0 []),(3,.ptr 8 []),(7,iv (x76:Int)),(122,bv (bif !decide ((Tld.mixed y).getD x76 0=3) then !decide ((Tld.mixed x).getD x76 0=(Tld.mixed y).getD x76 0) else false))] [(0,.cells 62 (cTld x)),(8,.cells 62 (cTld y))] 30712) (by kernel_rfl) ⟨tv,tv,tv,⟨(o30 hp x70 hx70 h71 x73 hx73 h74 x76 hx76 h77),(o31 hp x70 hx70 h71 x73 hx73 h74 x76 hx76 h77)⟩,tv,tv,tv,(fun h78=>⟨⟨tv,tv⟩,tv⟩),(fun h79=>⟨⟨(fun h80=>h79),tv⟩,tv⟩),(fun h81=>⟨⟨tv,tv⟩,tv⟩),(fun h82=>⟨⟨(fun h83=>h82),(fun h84=>h82),tv⟩,(o32 hp x70 hx70 h71 x73 hx73 h74 x76 hx76 h77 h82),(o33 hp x70 hx70 h71 x73 hx73 h74 x76 hx76 h77 h82)⟩),(fun h85=>⟨⟨(fun h86=>h85),tv⟩,tv⟩),(fun h87=>⟨⟨tv,tv⟩,tv⟩),(fun h88=>⟨⟨(fun h89=>h88),tv⟩,tv⟩),(fun h90=>⟨⟨tv,tv⟩,tv⟩),(fun h91=>⟨⟨(fun h92=>h91),(fun h93=>h91),tv⟩,(o34 hp x70 hx70 h71 x73 hx73 h74 x76 hx76 h77 h91),(o35 hp x70 hx70 h71 x73 hx73 h74 x76 hx76 h77 h91)⟩),(fun h94=>⟨⟨(fun h95=>h94),tv⟩,tv⟩),(fun h96=>⟨⟨(fun h97=>h96),(fun h98=>h96),tv⟩,tv⟩),⟨(fun h99=>h99),(fun h100=>tv)⟩,tv⟩ ?_
    refine swp_cond (bif !decide ((Tld.mixed y).getD x76 0=3) then !decide ((Tld.mixed x).getD x76 0=(Tld.mixed y).getD x76 0) else false) (by kernel_rfl) (fun h=>by cases (h.symm.trans (o36 hp x70 hx70 h71 x73 hx73 h74 x76 hx76 h77))) (fun _ => ?_)
    refine swp_skip ?_
    refine sR (kt:=[2,3,7]) (kh:=[0,8]) (q:=True/\inI ((x76:Int) + 1)/\True/\True) (st':=ASt.mk [(2,.ptr 0 []),(3,.ptr 8 []),(7,iv ((x76:Int) + 1))] [(0,.cells 62 (cTld x)),(8,.cells 62 (cTld y))] 30736) (by kernel_rfl) ⟨tv,(o37 hp x70 hx70 h71 x73 hx73 h74 x76 hx76 h77),tv,tv⟩ ?_
    exact loop_next (Hint.ann (h48c x y) [(2,AV.ptr 0 []),(3,AV.ptr 8 [])] [(0,OB.cells 62 (cTld x)),(8,OB.cells 62 (cTld y))] 30520) x76 (ent_q hE [] [(0,.same 0),(8,.same 8)] [] [0,8] (((some (Src.same 0)=some (Src.same 0)/\nilP = [])/\(some (Src.same 8)=some (Src.same 8)/\nilP = [])/\(iv ((x76:Int) + 1)=iv (↑(x76 + 1):Int)/\nilN = [])/\True)/\((OB.cells 62 (cTld x)=OB.cells 62 (cTld x)/\true=true)/\(OB.cells 62 (cTld y)=OB.cells 62 (cTld y)/\true=true)/\True)/\T2) (by kernel_rfl) (by kernel_rfl) ⟨⟨⟨rfl,rfl⟩,⟨rfl,rfl⟩,⟨(congrArg iv (o38 hp x70 hx70 h71 x73 hx73 h74 x76 hx76 h77)),rfl⟩,tv⟩,⟨⟨rfl,rfl⟩,⟨rfl,rfl⟩,tv⟩,rfl,rfl⟩) (o39 hp x70 hx70 h71 x73 hx73 h74 x76 hx76 h77) (o40 hp x70 hx70 h71 x73 hx73 h74 x76 hx76 h77)
   ·refine swp_exit (swp_seq (swp_seq ?_))
    refine sR (kt:=[2,3,8]) (kh:=[0,8]) (q:=True/\True) (st':=ASt.mk [(2,.ptr 0 []),(3,.ptr 8 []),(8,iv 0)] [(0,.cells 62 (cTld x)),(8,.cells 62 (cTld y))] 30568) (by kernel_rfl) ⟨tv,tv⟩ ?_
    refine swp_block ?_
    refine swp_loopA (Hint.ann (h48d x y) [(2,AV.ptr 0 []),(3,AV.ptr 8 [])] [(0,OB.cells 62 (cTld x)),(8,OB.cells 62 (cTld y))] 40568) (ent_q hE [] [(0,.same 0),(8,.same 8)] [] [0,8] (((some (Src.same 0)=some (Src.same 0)/\nilP = [])/\(some (Src.same 8)=some (Src.same 8)/\nilP = [])/\(iv 0=iv (↑0:Int)/\nilN = [])/\True)/\((OB.cells 62 (cTld x)=OB.cells 62 (cTld x)/\true=true)/\(OB.cells 62 (cTld y)=OB.cells 62 (cTld y)/\true=true)/\True)/\T2) (by kernel_rfl) (by kernel_rfl) ⟨⟨⟨rfl,rfl⟩,⟨rfl,rfl⟩,⟨(congrArg iv (o41 hp x70 hx70 h71 x73 hx73 h74 x76 hx76 h77)),rfl⟩,tv⟩,⟨⟨rfl,rfl⟩,⟨rfl,rfl⟩,tv⟩,rfl,rfl⟩) (o42 hp x70 hx70 h71 x73 hx73 h74 x76 hx76 h77) (fun (x101:Nat) hx101 => ?_)
    refine swp_seq (swp_seq ?_)
    refine sR (kt:=[2,3,8,127]) (kh:=[0,8]) (q:=True/\True/\True/\True/\True/\True) (st':=ASt.mk [(2,.ptr 0 []),(3,.ptr 8 []),(8,iv (x101:Int)),(127,bv (decide ((x101:Int) < (↑((Tld.whr y).length):Int))))] [(0,.cells 62 (cTld x)),(8,.cells 62 (cTld y))] 40608) (by kernel_rfl) ⟨tv,tv,tv,tv,tv,tv⟩ ?_
    refine swp_cond (decide ((x101:Int) < (↑((Tld.whr y).length):Int))) (by kernel_rfl) (fun h102 => ?_) (fun h102 => ?_)
    ·refine swp_skip (swp_seq (swp_block (swp_seq ?_)))
     refine sR (kt:=[2,3,8,9]) (kh:=[0,8]) (q:=True/\True) (st':=ASt.mk [(2,.ptr 0 []),(3,.ptr 8 []),(8,iv (x101:Int)),(9,iv 0)] [(0,.cells 62 (cTld x)),(8,.cells 62 (cTld y))] 40616) (by kernel_rfl) ⟨tv,tv⟩ ?_
     refine swp_block ?_
     refine swp_loopA (Hint.ann (h48e x y x101) [(2,AV.ptr 0 []),(3,AV.ptr 8 []),(8,iv (x101:Int))] [(0,OB.cells 62 (cTld x)),(8,OB.cells 62 (cTld y))] 50616) (ent_q hE [] [(0,.same 0),(8,.same 8)] [8] [0,8] (((some (Src.same 0)=some (Src.same 0)/\nilP = [])/\(some (Src.same 8)=some (Src.same 8)/\nilP = [])/\(iv (x101:Int)=iv (x101:Int)/\true=true)/\(iv 0=iv (↑0:Int)/\nilN = [])/\True)/\((OB.cells 62 (cTld x)=OB.cells 62 (cTld x)/\true=true)/\(OB.cells 62 (cTld y)=OB.cells 62 (cTld y)/\true=true)/\True)/\T2) (by kernel_rfl) (by kernel_rfl) ⟨⟨⟨rfl,rfl⟩,⟨rfl,rfl⟩,⟨rfl,rfl⟩,⟨(congrArg iv (o43 hp x70 hx70 h71 x73 hx73 h74 x76 hx76 h77 x101 hx101 h102)),rfl⟩,tv⟩,⟨⟨rfl,rfl⟩,⟨rfl,rfl⟩,tv⟩,rfl,rfl⟩) (o44 hp x70 hx70 h71 x73 hx73 h74 x76 hx76 h77 x101 hx101 h102) (fun (x103:Nat) hx103 => ?_)
     refine swp_seq (swp_seq ?_)
     refine sR (kt:=[2,3,8,9,137]) (kh:=[0,8]) (q:=True/\True/\True/\True/\(0<=(x101:Int)/\(x101:Int) < (↑((Tld.whr x).length):Int))/\True/\True/\True/\True) (st':=ASt.mk [(2,.ptr 0 []),(3,.ptr 8 []),(8,iv (x101:Int)),(9,iv (x103:Int)),(137,bv (decide ((x103:Int) < (↑(((Tld.whr x).getD x101 []).length):Int))))] [(0,.cells 62 (cTld x)),(8,.cells 62 (cTld y))] 50680) (by kernel_rfl) ⟨tv,tv,tv,tv,⟨(o45 hp x70 hx70 h71 x73 hx73 h74 x76 hx76 h77 x101 hx101 h102 x103 hx103),(o46 hp x70 hx70 h71 x73 hx73 h74 x76 hx76 h77 x101 hx101 h102 x103 hx103)⟩,tv,tv,tv,tv⟩ ?_
     refine swp_cond (decide ((x103:Int) < (↑(((Tld.whr x).getD x101 []).length):Int))) (by kernel_rfl) (fun h104 => ?_) (fun h104 => ?_)
     ·refine swp_skip (swp_seq (swp_block (swp_seq ?_)))
      refine swp_region T0_ok mixed (cs:=[(13,CallSpec.eq (s51 ((Tld.whr y).getD x101 []) (((Tld.whr x).getD x101 []).getD x103 0)) [true,true])]) (kt:=[2,3,8,9,154]) (kh:=[0,8]) (q:=True/\True/\True/\(0<=(x101:Int)/\(x101:Int) < (↑((Tld.whr y).length):Int))/\True/\True/\True/\True/\(0<=(x101:Int)/\(x101:Int) < (↑((Tld.whr x).length):Int))/\True/\True/\(0<=(x103:Int)/\(x103:Int) < (↑(((Tld.whr x).getD x101 []).length):Int))/\True/\((aInts ((Tld.whr y).getD x101 [])=aInts ((Tld.whr y).getD x101 [])/\iv (((Tld.whr x).getD x101 []).getD x103 0)=iv (((Tld.whr x).getD x101 []).getD x103 0)/\True)/\Triple Try.prog 51 (s51 ((Tld.whr y).getD x101 []) (((Tld.whr x).getD x101 []).getD x103 0))/\((Tld.whr y).getD x101 []).length<=1125899906842624/\True /\ ∀ (i105:Env),True)/\True/\True) (st':=ASt.mk [(2,.ptr 0 []),(3,.ptr 8 []),(8,iv (x101:Int)),(9,iv (x103:Int)),(154,bv !isIn ((Tld.whr y).getD x101 []) (((Tld.whr x).getD x101 []).getD x103 0))] [(0,.cells 62 (cTld x)),(8,.cells 62 (cTld y))] 50800) (by kernel_rfl) ⟨tv,tv,tv,⟨(o47 hp x70 hx70 h71 x73 hx73 h74 x76 hx76 h77 x101 hx101 h102 x103 hx103 h104),(o48 hp x70 hx70 h71 x73 hx73 h74 x76 hx76 h77 x101 hx101 h102 x103 hx103 h104)⟩,tv,tv,tv,tv,⟨(o49 hp x70 hx70 h71 x73 hx73 h74 x76 hx76 h77 x101 hx101 h102 x103 hx103 h104),(o50 hp x70 hx70 h71 x73 hx73 h74 x76 hx76 h77 x101 hx101 h102 x103 hx103 h104)⟩,tv,tv,⟨(o51 hp x70 hx70 h71 x73 hx73 h74 x76 hx76 h77 x101 hx101 h102 x103 hx103 h104),(o52 hp x70 hx70 h71 x73 hx73 h74 x76 hx76 h77 x101 hx101 h102 x103 hx103 h104)⟩,tv,⟨⟨rfl,rfl,tv⟩,(t51 ((Tld.whr y).getD x101 []) (((Tld.whr x).getD x101 []).getD x103 0)),(o53 hp x70 hx70 h71 x73 hx73 h74 x76 hx76 h77 x101 hx101 h102 x103 hx103 h104),tv,(fun i105=>tv)⟩,tv,tv⟩ ?_
      refine swp_cond (!isIn ((Tld.whr y).getD x101 []) (((Tld.whr x).getD x101 []).getD x103 0)) (by kernel_rfl) (fun h=>by cases (h.symm.trans (o54 hp x70 hx70 h71 x73 hx73 h74 x76 hx76 h77 x101 hx101 h102 x103 hx103 h104))) (fun _ => ?_)
      refine swp_skip ?_
      refine sR (kt:=[2,3,8,9]) (kh:=[0,8]) (q:=True/\inI ((x103:Int) + 1)/\True/\True) (st':=ASt.mk [(2,.ptr 0 []),(3,.ptr 8 []),(8,iv (x101:Int)),(9,iv ((x103:Int) + 1))] [(0,.cells 62 (cTld x)),(8,.cells 62 (cTld y))] 50824) (by kernel_rfl) ⟨tv,(o55 hp x70 hx70 h71 x73 hx73 h74 x76 hx76 h77 x101 hx101 h102 x103 hx103 h104),tv,tv⟩ ?_
      exact loop_next (Hint.ann (h48e x y x101) [(2,AV.ptr 0 []),(3,AV.ptr 8 []),(8,iv (x101:Int))] [(0,OB.cells 62 (cTld x)),(8,OB.cells 62 (cTld y))] 50616) x103 (ent_q hE [] [(0,.same 0),(8,.same 8)] [8] [0,8] (((some (Src.same 0)=some (Src.same 0)/\nilP = [])/\(some (Src.same 8)=some (Src.same 8)/\nilP = [])/\(iv (x101:Int)=iv (x101:Int)/\true=true)/\(iv ((x103:Int) + 1)=iv (↑(x103 + 1):Int)/\nilN = [])/\True)/\((OB.cells 62 (cTld x)=OB.cells 62 (cTld x)/\true=true)/\(OB.cells 62 (cTld y)=OB.cells 62 (cTld y)/\true=true)/\True)/\T2) (by kernel_rfl) (by kernel_rfl) ⟨⟨⟨rfl,rfl⟩,⟨rfl,rfl⟩,⟨rfl,rfl⟩,⟨(congrArg iv (o56 hp x70 hx70 h71 x73 hx73 h74 x76 hx76 h77 x101 hx101 h102 x103 hx103 h104)),rfl⟩,tv⟩,⟨⟨rfl,rfl⟩,⟨rfl,rfl⟩,tv⟩,rfl,rfl⟩) (o57 hp x70 hx70 h71 x73 hx73 h74 x76 hx76 h77 x101 hx101 h102 x103 hx103 h104) (o58 hp x70 hx70 h71 x73 hx73 h74 x76 hx76 h77 x101 hx101 h102 x103 hx103 h104)
     ·refine swp_exit ?_
      refine sR (kt:=[2,3,8]) (kh:=[0,8]) (q:=True/\inI ((x101:Int) + 1)/\True/\True) (st':=ASt.mk [(2,.ptr 0 []),(3,.ptr 8 []),(8,iv ((x101:Int) + 1))] [(0,.cells 62 (cTld x)),(8,.cells 62 (cTld y))] 50704) (by kernel_rfl) ⟨tv,(o59 hp x70 hx70 h71 x73 hx73 h74 x76 hx76 h77 x101 hx101 h102 x103 hx103 h104),tv,tv⟩ ?_
      exact loop_next (Hint.ann (h48d x y) [(2,AV.ptr 0 []),(3,AV.ptr 8 [])] [(0,OB.cells 62 (cTld x)),(8,OB.cells 62 (cTld y))] 40568) x101 (ent_q hE [] [(0,.same 0),(8,.same 8)] [] [0,8] (((some (Src.same 0)=some (Src.same 0)/\nilP = [])/\(some (Src.same 8)=some (Src.same 8)/\nilP = [])/\(iv ((x101:Int) + 1)=iv (↑(x101 + 1):Int)/\nilN = [])/\True)/\((OB.cells 62 (cTld x)=OB.cells 62 (cTld x)/\true=true)/\(OB.cells 62 (cTld y)=OB.cells 62 (cTld y)/\true=true)/\True)/\T2) (by kernel_rfl) (by kernel_rfl) ⟨⟨⟨rfl,rfl⟩,⟨rfl,rfl⟩,⟨(congrArg iv (o60 hp x70 hx70 h71 x73 hx73 h74 x76 hx76 h77 x101 hx101 h102 x103 hx103 h104)),rfl⟩,tv⟩,⟨⟨rfl,rfl⟩,⟨rfl,rfl⟩,tv⟩,rfl,rfl⟩) (o61 hp x70 hx70 h71 x73 hx73 h74 x76 hx76 h77 x101 hx101 h102 x103 hx103 h104) (o62 hp x70 hx70 h71 x73 hx73 h74 x76 hx76 h77 x101 hx101 h102 x103 hx103 h104)
    ·refine swp_exit (swp_seq ?_)
     refine sR (kt:=[4]) (kh:=[]) (q:=True/\True) (st':=ASt.mk [(4,bv true)] [] 40616) (by kernel_rfl) ⟨tv,tv⟩ ?_
     refine swp_ret ?_
     exact ret_q [] ((True/\True)/\(bv true=bv true/\nilN = [])/\T3) (by kernel_rfl) ⟨⟨tv,tv⟩,⟨rfl,rfl⟩,rfl,rfl,rfl⟩
theorem t48 (x y:Tld):Triple Try.prog 48 (s48 x y):=by
 apply w48
 all_goals (first | ((repeat intro _) <;> (try simp only [v0,v1,v2,v3,v4,v5,v6,v7,v8,v9,inI,fits,Go.Sh.small] at *) <;> first | (exact rfl) | omega | exact vz | (simp_all; done) | (simp_all; omega)) | skip)
 case o5 =>
  intro h
  have h1:=h.wl.1; have h2:=h.ol.1; have h3:=h.ml.1; have h4:=h.hl.1; have h5:=h.few
  rw [h.mixes]
  have a4:¬ (x.whr.length:Int) < y.whr.length:=by omega
  have a5:¬ x.fewest < y.fewest:=by omega
  simp [h1,h2,h3,a5]
  omega
 all_goals (intro h a ha hal; simp only [decide_eq_true_eq,decide_eq_false_iff_not] at hal; have h1:=h.wl; have h2:=h.ol; have h3:=h.ml; have h4:=h.hl)
 case o11=>omega
 case o12=>rw [h.when a (by omega)]; rfl
 case o13=>exact ⟨by omega,by omega⟩
 all_goals (intro b hb hbl; simp only [decide_eq_true_eq,decide_eq_false_iff_not] at hbl)
 case o22=>omega
 case o23=>rw [h.old b (by omega)]; rfl
 case o24=>exact ⟨by omega,by omega⟩
 all_goals (intro c hc hcl; simp only [decide_eq_true_eq,decide_eq_false_iff_not] at hcl)
 case o31=>omega
 case o35=>intro _; omega
 case o36 =>
  rcases h.mixed c (by omega) with e | e
  ·rw [e]; rfl
  ·rw [e]; simp
 case o37=>exact ⟨by omega,by omega⟩
 all_goals (intro d hd hdl e he; simp only [decide_eq_true_eq,decide_eq_false_iff_not] at hdl)
 case o46=>omega
 all_goals (intro hel; simp only [decide_eq_true_eq,decide_eq_false_iff_not] at hel; obtain ⟨g1,g2,g3⟩:=h.whr d (by omega))
 case o50=>omega
 case o53=>omega
 case o54=>rw [g1 e (by omega)]; rfl
 case o55=>exact ⟨by omega,by omega⟩
 case o59=>exact ⟨by omega,by omega⟩
end Go.Ab
namespace Go.Sh
theorem getD_set {α:Type} (l:List α) (d v:α) {i j:Nat} (hi:i < l.length):(l.set i v).getD j d=if j=i then v else l.getD j d:=by
 by_cases hj:j < l.length
 ·rw [Go.Ab.getD_lt _ _ (by simpa using hj),List.getElem_set,Go.Ab.getD_lt _ _ hj]
  by_cases e:i=j
  ·rw [if_pos e,if_pos e.symm]
  ·rw [if_neg e,if_neg (fun h=>e h.symm)]
 ·rw [Go.Ab.getD_ge _ _ (by simp; omega),Go.Ab.getD_ge _ _ (by omega),if_neg (by omega)]
def setM (r:Run) (m:Nat) (x:Mach):Run:=⟨r.plates,r.last,r.machines.set m x,r.found⟩
def setF (r:Run) (f:Nat) (c:Fnd):Run:=⟨r.plates,r.last,r.machines,r.found.set f c⟩
theorem len_setM (r:Run) (m:Nat) (x:Mach):(setM r m x).machines.length=r.machines.length:=List.length_set
theorem len_setF (r:Run) (f:Nat) (c:Fnd):(setF r f c).found.length=r.found.length:=List.length_set
theorem mach_setM {r:Run} {m:Nat} (x:Mach) (h:m < r.machines.length) (j:Nat):mach (setM r m x) j=if j=m then x else mach r j:=getD_set _ _ _ h
theorem fnd_setF {r:Run} {f:Nat} (c:Fnd) (h:f < r.found.length) (j:Nat):fnd (setF r f c) j=if j=f then c else fnd r j:=getD_set _ _ _ h
def setCh (r:Run) (m p:Nat) (s:Span):Run:=setM r m ⟨(mach r m).changes.set p s,(mach r m).rate⟩
theorem chg_setCh {r:Run} {m p:Nat} {s:Span} (hm:m < r.machines.length) (hp:p < (mach r m).changes.length) (j q:Nat):chg (mach (setCh r m p s) j) q=if j=m/\q=p then s else chg (mach r j) q:=by
 unfold setCh
 rw [mach_setM _ hm]
 by_cases e:j=m
 ·subst e
  rw [if_pos rfl]
  show ((mach r j).changes.set p s).getD q default=_
  rw [getD_set _ _ _ hp]
  by_cases e2:q=p
  ·rw [if_pos e2,if_pos ⟨rfl,e2⟩]
  ·rw [if_neg e2,if_neg (fun h=>e2 h.2)]; rfl
 ·rw [if_neg e,if_neg (fun h=>e h.1)]
theorem len_setCh {r:Run} {m p:Nat} {s:Span} (hm:m < r.machines.length) (j:Nat):(mach (setCh r m p s) j).changes.length=(mach r j).changes.length/\(mach (setCh r m p s) j).rate=(mach r j).rate:=by
 unfold setCh
 rw [mach_setM _ hm]
 split
 ·rename_i e; subst e; exact ⟨List.length_set,rfl⟩
 ·exact ⟨rfl,rfl⟩
end Go.Sh
namespace Go.Sh
theorem span_sub {o r:Run} {x y:List Int} {m p:Nat} (hc:(chg (mach r m) p).lo<=(chg (mach o m) p).lo/\(chg (mach o m) p).hi<=(chg (mach r m) p).hi)
  (h:∀ i,i < y.length->y.getD i 0=(m:Int) -> ∃ j,j < x.length/\x.getD j 0=(m:Int)/\(fnd o j).minute=(fnd r i).minute/\((fnd r i).new.getD p 0 = -1 ∨ (fnd o j).new.getD p 0=(fnd r i).new.getD p 0)) :
  (spanOf r y m p).lo<=(spanOf o x m p).lo/\(spanOf o x m p).hi<=(spanOf r y m p).hi:=by
 obtain ⟨a1,a2⟩:=spanOf_lo.1 (Int.le_refl (spanOf o x m p).lo)
 obtain ⟨b1,b2⟩:=spanOf_hi.1 (Int.le_refl (spanOf o x m p).hi)
 refine ⟨spanOf_lo.2 ⟨by omega,fun i hi e e2 => ?_⟩,spanOf_hi.2 ⟨by omega,fun i hi e e2 => ?_⟩⟩
 ·obtain ⟨j,hj,ej,em,en⟩:=h i hi e
  rw [← em]
  exact a2 j hj ej (by omega)
 ·obtain ⟨j,hj,ej,em,en⟩:=h i hi e
  rw [← em]
  exact b2 j hj ej (by omega)
theorem froms_mem {r o:Run} (okr:Ok r) (oko:Ok o) (hm:o.machines.length=r.machines.length) (hp:o.plates=r.plates) {x y:List Int} (hx:x ∈ fromsOf o) (hy:y.length=r.found.length /\ ∀ i,i < r.found.length->y.getD i 0 ∈ (fnd r i).frm)
  (hs:∀ m,m < r.machines.length -> ∀ p:Nat,(p:Int) < r.plates->(spanOf r y m p).lo<=(spanOf o x m p).lo/\(spanOf o x m p).hi<=(spanOf r y m p).hi):y ∈ fromsOf r:=by
 refine mem_froms.2 ⟨hy,(canBe_iff okr).2 fun m hm2 p hp2 => ?_⟩
 have h1:=hs m hm2 p hp2
 have h2:=froms_le oko hx (m:=m) (p:=p) (by omega) (by omega)
 omega
def rotIdx (F a i:Nat):Nat:=(i + a) % F
theorem one_is {r:Run} (h:One r):isOne r=true:=by
 have:=h.pos
 simp only [isOne,decide_eq_true_eq]; omega
end Go.Sh
namespace Go.Sh
structure Clr where
 found:Int
 plate:Int
 new:Int
 not:Int
 machine:Int
 change:Int
 span:Span
 deriving DecidableEq,Inhabited
def clrNew (r:Run) (x:Clr):List Int:=if isPlate r x.plate then (if (fnd r x.found.toNat).new.getD x.plate.toNat 0 = -1 then (fnd r x.found.toNat).new.set x.plate.toNat x.new else (fnd r x.found.toNat).new) else (fnd r x.found.toNat).new
def clrTo (r:Run) (x:Clr) (i:Nat):List Int:=((fnd r x.found.toNat).frm.take i).filter fun m => !decide (m=x.not)
def clrF (r:Run) (x:Clr):Fnd:=⟨(fnd r x.found.toNat).minute,clrNew r x,clrTo r x (fnd r x.found.toNat).frm.length⟩
def clr1 (r:Run) (x:Clr):Run:=if isFound r x.found then setF r x.found.toNat (clrF r x) else r
def clrIs (r:Run) (x:Clr):Bool:=isMachine r x.machine && isPlate r x.change && inside x.span (chg (mach r x.machine.toNat) x.change.toNat)
def clrR (r:Run) (x:Clr):Run:=if clrIs r x then setCh (clr1 r x) x.machine.toNat x.change.toNat x.span else clr1 r x
theorem clrTo_t {r:Run} {x:Clr} {i:Nat} (hi:i < (fnd r x.found.toNat).frm.length) (h:(fnd r x.found.toNat).frm.getD i 0 ≠ x.not):clrTo r x (i + 1)=clrTo r x i ++ [(fnd r x.found.toNat).frm.getD i 0]:=by
 unfold clrTo; rw [Go.Ab.take_succ _ 0 hi,List.filter_append,List.filter_cons_of_pos (by rw [decide_eq_false h]; rfl)]; rfl
theorem clrTo_f {r:Run} {x:Clr} {i:Nat} (hi:i < (fnd r x.found.toNat).frm.length) (h:(fnd r x.found.toNat).frm.getD i 0=x.not):clrTo r x (i + 1)=clrTo r x i:=by
 unfold clrTo; rw [Go.Ab.take_succ _ 0 hi,List.filter_append,List.filter_cons_of_neg (by rw [decide_eq_true h]; exact Bool.false_ne_true),List.filter_nil,List.append_nil]
theorem clrTo_len (r:Run) (x:Clr) (i:Nat):(clrTo r x i).length<=i:=by
 unfold clrTo; exact Nat.le_trans (List.length_filter_le _ _) (by rw [List.length_take]; omega)
theorem clr1_mach (r:Run) (x:Clr):(clr1 r x).machines=r.machines/\(clr1 r x).plates=r.plates/\(clr1 r x).last=r.last/\(clr1 r x).found.length=r.found.length:=by
 unfold clr1; split
 ·exact ⟨rfl,rfl,rfl,len_setF _ _ _⟩
 ·exact ⟨rfl,rfl,rfl,rfl⟩
theorem clrR_eqs (r:Run) (x:Clr):(clrR r x).found=(clr1 r x).found/\(clrR r x).machines.length=r.machines.length/\(clrR r x).plates=r.plates/\(clrR r x).last=r.last:=by
 obtain ⟨h1,h2,h3,_⟩:=clr1_mach r x
 unfold clrR; split
 ·refine ⟨rfl,?_,h2,h3⟩
  unfold setCh; rw [len_setM,h1]
 ·exact ⟨rfl,by rw [h1],h2,h3⟩
theorem isFound_iff {r:Run} {f:Int}:isFound r f=true ↔ 0<=f/\f < r.found.length:=by
 simp only [isFound,within_iff]; omega
theorem fnd_clr1 {r:Run} (x:Clr) (h:isFound r x.found=true) (k:Nat):fnd (clr1 r x) k=if k=x.found.toNat then clrF r x else fnd r k:=by
 have:=isFound_iff.1 h
 unfold clr1
 rw [if_pos h,fnd_setF _ (by omega)]
theorem fnd_clr1_no {r:Run} (x:Clr) (h:isFound r x.found=false):clr1 r x=r:=by
 unfold clr1
 rw [h]; rfl
theorem clr_fnd {r:Run} (x:Clr) (i:Nat):(fnd (clrR r x) i).minute=(fnd r i).minute/\(∀ v,v ∈ (fnd (clrR r x) i).frm->v ∈ (fnd r i).frm) /\ ∀ p,(fnd r i).new.getD p 0 = -1 ∨ (fnd (clrR r x) i).new.getD p 0=(fnd r i).new.getD p 0:=by
 have e:fnd (clrR r x) i=fnd (clr1 r x) i:=by unfold fnd; rw [(clrR_eqs r x).1]
 rw [e]
 cases hf:isFound r x.found with
 | false=>rw [fnd_clr1_no x hf]; exact ⟨rfl,fun _ h=>h,fun _ => .inr rfl⟩
 | true =>
  have hfi:=isFound_iff.1 hf
  rw [fnd_clr1 x hf]
  by_cases c:i=x.found.toNat
  ·subst c
   rw [if_pos rfl]
   refine ⟨rfl,fun v h => ?_,fun p => ?_⟩
   ·exact List.mem_of_mem_take (List.mem_filter.1 h).1
   ·show _ ∨ (clrNew r x).getD p 0=_
    unfold clrNew
    split
    ·split
     ·rename_i e1
      by_cases hl:x.plate.toNat < (fnd r x.found.toNat).new.length
      ·rw [getD_set _ _ _ hl]
       by_cases c2:p=x.plate.toNat
       ·subst c2; exact .inl e1
       ·rw [if_neg c2]; exact .inr rfl
      ·rw [List.set_eq_of_length_le (by omega)]; exact .inr rfl
     ·exact .inr rfl
    ·exact .inr rfl
  ·rw [if_neg c]; exact ⟨rfl,fun _ h=>h,fun _ => .inr rfl⟩
theorem mach_clr1 (r:Run) (x:Clr) (m:Nat):mach (clr1 r x) m=mach r m:=by unfold mach; rw [(clr1_mach r x).1]
theorem clrIs_iff {r:Run} (ok:Ok r) {x:Clr} (h:clrIs r x=true):(0<=x.machine/\x.machine.toNat < r.machines.length)/\(0<=x.change/\(x.change.toNat:Int) < r.plates)/\inside x.span (chg (mach r x.machine.toNat) x.change.toNat)=true:=by
 have:=ok.plates
 simp only [clrIs,isMachine,isPlate,Bool.and_eq_true,within_iff,plates_wr ok] at h
 refine ⟨by omega,by omega,h.2⟩
theorem clr_mach {r:Run} (ok:Ok r) (x:Clr) (m:Nat):(mach (clrR r x) m).rate=(mach r m).rate /\ ∀ p,(chg (mach r m) p).lo<=(chg (mach (clrR r x) m) p).lo/\(chg (mach (clrR r x) m) p).hi<=(chg (mach r m) p).hi:=by
 unfold clrR
 split
 ·rename_i h
  obtain ⟨⟨a1,a2⟩,⟨a3,a4⟩,a5⟩:=clrIs_iff ok h
  have hl:x.machine.toNat < (clr1 r x).machines.length:=by rw [(clr1_mach r x).1]; exact a2
  have hp:x.change.toNat < (mach (clr1 r x) x.machine.toNat).changes.length:=by rw [mach_clr1]; have:=(ok.mach _ a2).1; omega
  refine ⟨by rw [(len_setCh hl m).2,mach_clr1],fun p => ?_⟩
  rw [chg_setCh hl hp,mach_clr1]
  split
  ·rename_i c
   obtain ⟨rfl,rfl⟩:=c
   simp only [inside,Bool.and_eq_true,decide_eq_true_eq] at a5
   omega
  ·exact ⟨Int.le_refl _,Int.le_refl _⟩
 ·rw [mach_clr1]; exact ⟨rfl,fun _=>⟨Int.le_refl _,Int.le_refl _⟩⟩
theorem clr_clear {r:Run} {x:Clr} (hr:One r) (ho:One (clrR r x)):Clear (toldOf (clrR r x)) (toldOf r):=by
 obtain ⟨e1,e2,e3,_⟩:=clrR_eqs r x
 have hl:(clrR r x).found.length=r.found.length:=by rw [e1]; exact (clr1_mach r x).2.2.2
 have hspan:∀ l,l ∈ fromsOf (clrR r x) -> ∀ m,m < r.machines.length -> ∀ p:Nat,(p:Int) < r.plates->(spanOf r l m p).lo<=(spanOf (clrR r x) l m p).lo/\(spanOf (clrR r x) l m p).hi<=(spanOf r l m p).hi:=by
  intro l _ m _ p _
  refine span_sub ((clr_mach hr.ok x m).2 p) fun i hi e=>⟨i,hi,e,(clr_fnd x i).1,(clr_fnd x i).2.2 p⟩
 have hfin:Finer (clrR r x) r id:=⟨hr,ho,e2,e3,fun m _=>(clr_mach hr.ok x m).1,fun l hl1=>by
  obtain ⟨h1,h2⟩:=(mem_froms.1 hl1).1
  refine froms_mem hr.ok ho.ok e2 e3 hl1 ⟨by show l.length=_; omega,fun i hi => ?_⟩ (hspan l hl1)
  exact (clr_fnd x i).2.1 _ (h2 i (by omega)),hspan,fun _ _ _ h=>h⟩
 exact finer_where hfin (by omega) fun _ _ _ _=>rfl
end Go.Sh
namespace Go.Sh
theorem chLen_at {r:Run} {m:Nat} (h:m < r.machines.length):chLen r m r.machines.length=(mach r m).changes.length:=if_pos h
theorem nwLen_at {r:Run} {f:Nat} (h:f < r.found.length):nwLen r f r.found.length=(fnd r f).new.length:=if_pos h
theorem rec_eq {α:Type} {i j:Nat} {a:¬ i=j->α} {b:i=j->α} {c:α} (h1:∀ h,a h=c) (h2:∀ h,b h=c):(Decidable.rec a b (instDecidableEqNat i j):α)=c:=by
 cases instDecidableEqNat i j with
 | isTrue h=>exact h2 h
 | isFalse h=>exact h1 h
def end0 (s:Span):Int:=s.lo - 1
end Go.Sh
namespace Go.Ab
open Go Go.RowKit Go.Proofs Go.Sh Go.En
def h7 (r:Run) (m p:Int):Hint:={ X:=Int,M:=fun n=>[(12,iv n)],I:=fun n=>end0 (whenS r m p)<=n/\n<=(whenS r m p).hi + 2,mu:=fun n=>((whenS r m p).hi + 2 - n).toNat,x0:=end0 (whenS r m p),nx:=fun n=>n + 1 }
end Go.Ab
namespace Go.Ab
open Go Go.RowKit Go.Proofs Go.Sh Go.En
end Go.Ab
namespace Go.Sh
theorem known_ok {r:Run} (h:(!known6 r)=false):known6 r=true/\okRun r=true/\One r:=by
 have h1:known6 r=true:=by simpa using h
 refine ⟨h1,?_,one_known h1⟩
 simp only [known6,Bool.and_eq_true] at h1
 exact ready_ok h1.1
theorem small_known {r:Run} (h:known6 r=true) (hf:fits r):small r:=by
 simp only [known6,ready,Bool.and_eq_true,Bool.not_eq_true'] at h
 exact far_small h.1.1 hf
def rfnd (r:Run) (a i k:Nat):Fnd:=if k < i then fnd r (rotIdx r.found.length a k) else fnd r k
end Go.Sh
namespace Go.Ab
open Go Go.RowKit Go.Proofs Go.Sh Go.En
def h11 (r:Run) (a:Int):Hint:={ X:=Nat,M:=fun i=>[(6,iv i),(5,.ptr 5000 [])],H:=fun i=>[(5000,.cells 25 [iv r.plates,iv r.last,.vec 5001,.vec 5002]),(5001,.vec 42 2 r.machines.length (fun k=>cMach (mach r k))),(5002,.vec 32 3 r.found.length (fun k=>cFnd (rfnd r a.toNat i k)))],I:=fun i=>i<=r.found.length,mu:=fun i=>r.found.length - i,x0:=(0:Nat),nx:=fun i=>i + 1 }
end Go.Ab
namespace Go.Ab
open Go Go.RowKit
section
variable {C:Ctx} {nt:Nat} {K:AX->ASt->Prop} {st:ASt}
def joinK (C:Ctx) (nt:Nat) (s':ASt) (K:AX->ASt->Prop):AX->ASt->Prop
 | .normal,st=>Ent C nt st s'
 | x,st=>K x st
theorem swp_join2 {x y:Code} (s':ASt) (hy:SWP C nt y K s') (hx:SWP C nt x (joinK C nt s' K) st):SWP C nt x (seqK C nt y K) st :=
 swp_mono hx fun a s h=>by
  cases a with
  | normal=>exact swp_ent h hy
  | ret=>exact h
  | exit i=>exact h
theorem join_end {s s':ASt} (h:Ent C nt s s'):joinK C nt s' K .normal s:=h
end
structure JoinH where
 tm:List (Nat × AV):=[]
 hp:List (Nat × OB):=[]
end Go.Ab
namespace Go.Sh
theorem chLen_any (r:Run) (m:Nat):chLen r m r.machines.length=(mach r m).changes.length:=by
 by_cases h:m < r.machines.length
 ·exact chLen_at h
 ·rw [mach,Go.Ab.getD_ge _ _ (by omega),chLen,if_neg h]; rfl
theorem nwLen_any (r:Run) (f:Nat):nwLen r f r.found.length=(fnd r f).new.length:=by
 by_cases h:f < r.found.length
 ·exact nwLen_at h
 ·rw [fnd,Go.Ab.getD_ge _ _ (by omega),nwLen,if_neg h]; rfl
theorem clrNew_len (r:Run) (x:Clr):(clrNew r x).length=(fnd r x.found.toNat).new.length:=by
 unfold clrNew
 split
 ·split
  ·exact List.length_set
  ·rfl
 ·rfl
theorem clr_mlen {r:Run} (ok:Ok r) (x:Clr) (m:Nat):(mach (clrR r x) m).changes.length=(mach r m).changes.length:=by
 unfold clrR
 split
 ·rename_i h
  have:=(clrIs_iff ok h).1
  rw [(len_setCh (by rw [(clr1_mach r x).1]; omega) m).1,mach_clr1]
 ·rw [mach_clr1]
theorem clr_flen {r:Run} (x:Clr) (i:Nat):(fnd (clr1 r x) i).new.length=(fnd r i).new.length/\(fnd (clr1 r x) i).frm.length<=(fnd r i).frm.length:=by
 cases h:isFound r x.found with
 | false=>rw [fnd_clr1_no x h]; exact ⟨rfl,Nat.le_refl _⟩
 | true =>
  rw [fnd_clr1 x h]
  split
  ·rename_i e; subst e; exact ⟨clrNew_len r x,clrTo_len _ _ _⟩
  ·exact ⟨rfl,Nat.le_refl _⟩
theorem fnd_clrR (r:Run) (x:Clr) (i:Nat):fnd (clrR r x) i=fnd (clr1 r x) i:=by unfold fnd; rw [(clrR_eqs r x).1]
theorem clr_fits {r:Run} (ok:Ok r) (x:Clr):fits (clrR r x):=by
 have h:=ok_fits ok
 obtain ⟨e1,e2,_,_⟩:=clrR_eqs r x
 refine ⟨by rw [e2]; exact h.1,by rw [e1,(clr1_mach r x).2.2.2]; exact h.2.1,fun i=>by rw [clr_mlen ok]; exact h.2.2.1 i,fun i => ?_⟩
 rw [fnd_clrR]
 have h1:=clr_flen (r:=r) x i
 have h2:=h.2.2.2 i
 omega
theorem clr_is {r:Run} {x:Clr}:(bif bif isMachine r x.machine then isPlate r x.change else false then inside x.span ((mach r x.machine.toNat).changes.getD x.change.toNat default) else false)=clrIs r x:=by
 unfold clrIs chg
 cases isMachine r x.machine <;> cases isPlate r x.change <;> simp
theorem and_t {a b:Bool} (h:(bif a then b else false)=true):a=true/\b=true:=by cases a <;> cases b <;> simp_all
theorem clr_pl {r:Run} (ok:Ok r) {x:Clr} (hf:isFound r x.found=true) (hp:isPlate r x.plate=true):0<=x.plate/\x.plate < (fnd r x.found.toNat).new.length:=by
 have h1:=isFound_iff.1 hf
 have h2:=plateIs_ok ok hp
 have h3:=ok.fnd x.found.toNat (by omega)
 omega
theorem clr_ch {r:Run} (ok:Ok r) {x:Clr} (hm:isMachine r x.machine=true) (hp:isPlate r x.change=true):(0<=x.machine/\x.machine < r.machines.length)/\0<=x.change/\x.change < (mach r x.machine.toNat).changes.length:=by
 have h1:=machIs_ok hm
 have h2:=plateIs_ok ok hp
 have h3:=(ok.mach x.machine.toNat (by omega)).1
 omega
end Go.Sh
namespace Go.En
open Go Go.Ab Go.Sh
def cClr (x:Clr):List AV:=[iv x.found,iv x.plate,iv x.new,iv x.not,iv x.machine,iv x.change,iv x.span.lo,iv x.span.hi]
abbrev vClr (x:Clr):AV := .agg (cClr x)
end Go.En
namespace Go.Ab
open Go Go.RowKit Go.Proofs Go.Sh Go.En
def s10 (r:Run) (x:Clr):CallSpec:={ args:=[vRun r,vClr x],res:=bv true,pre:=fits r }
def c10 (r:Run) (x:Clr) (id:Nat):CallSpec:=s20o r x.machine.toNat x.found.toNat id
def h10 (r:Run) (x:Clr):Hint:={ X:=Nat,M:=fun i=>[(8,iv i),(7,.vec 5000)],H:=fun i=>[(5000,.vec 3 1 (clrTo r x i).length (fun k=>[iv ((clrTo r x i).getD k 0)]))],I:=fun i=>i<=(fnd r x.found.toNat).frm.length,mu:=fun i=>(fnd r x.found.toNat).frm.length - i,x0:=(0:Nat),nx:=fun i=>i + 1 }
end Go.Ab
namespace Go.Ab
open Go Go.RowKit Go.Proofs Go.Sh Go.En
abbrev q10_1 (r:Run) (x:Clr) (C:Prop):Prop:=fits r->(!known6 r)=false->C
abbrev q10_2 (r:Run) (x:Clr) (C:Prop):Prop:=q10_1 r x (isFound r (Clr.found x)=true->C)
abbrev q10_3 (r:Run) (x:Clr) (C:Prop):Prop:=q10_2 r x ((bif isPlate r (Clr.plate x) then decide ((fnd r (Clr.found x).toNat).new.getD (Clr.plate x).toNat 0 = -1) else false)=true->C)
abbrev q10_4 (r:Run) (x:Clr) (C:Prop):Prop:=q10_2 r x ((bif isPlate r (Clr.plate x) then decide ((fnd r (Clr.found x).toNat).new.getD (Clr.plate x).toNat 0 = -1) else false)=false->C)
abbrev q10_5 (r:Run) (x:Clr) (C:Nat->Prop):Prop:=q10_2 r x (∀ (x47:Nat),x47<=(fnd r (Clr.found x).toNat).frm.length->decide ((x47:Int) < (↑((fnd r (Clr.found x).toNat).frm.length):Int))=true->C x47)
abbrev q10_6 (r:Run) (x:Clr) (C:Nat->Prop):Prop:=q10_5 r x fun x47=>(!decide ((fnd r (Clr.found x).toNat).frm.getD x47 0=Clr.not x))->C x47
abbrev q10_7 (r:Run) (x:Clr) (C:Nat->Prop):Prop:=q10_5 r x fun x47=>(!decide ((fnd r (Clr.found x).toNat).frm.getD x47 0=Clr.not x))=false->C x47
abbrev q10_8 (r:Run) (x:Clr) (C:Nat->Prop):Prop:=q10_2 r x (∀ (x47:Nat),x47<=(fnd r (Clr.found x).toNat).frm.length->decide ((x47:Int) < (↑((fnd r (Clr.found x).toNat).frm.length):Int))=false->C x47)
abbrev q10_9 (r:Run) (x:Clr) (C:Prop):Prop:=q10_1 r x (isFound r (Clr.found x)=false->C)
abbrev q10_10 (r:Run) (x:Clr) (C:Prop):Prop:=q10_1 r x ((bif isMachine r (Clr.machine x) then isPlate r (Clr.change x) else false)=true->C)
abbrev q10_11 (r:Run) (x:Clr) (C:Prop):Prop:=q10_1 r x ((bif bif isMachine r (Clr.machine x) then isPlate r (Clr.change x) else false then inside (Clr.span x) ((mach r (Clr.machine x).toNat).changes.getD (Clr.change x).toNat default) else false)=true->C)
abbrev q10_12 (r:Run) (x:Clr) (C:Prop):Prop:=q10_1 r x ((bif bif isMachine r (Clr.machine x) then isPlate r (Clr.change x) else false then inside (Clr.span x) ((mach r (Clr.machine x).toNat).changes.getD (Clr.change x).toNat default) else false)=false->C)
abbrev q10_13 (r:Run) (x:Clr) (C:Prop):Prop:=q10_1 r x ((!known6 (clrR r x))=false->C)
theorem w10 (r:Run) (x:Clr)
 (o0:q10_1 r x (small r))
 (o1:q10_2 r x (0<=Clr.found x))
 (o2:q10_2 r x (Clr.found x < (↑(r.found.length):Int)))
 (o3:q10_2 r x ((Clr.found x).toNat < r.found.length))
 (o4:q10_2 r x (isPlate r (Clr.plate x)=true->0<=Clr.plate x))
 (o5:q10_2 r x (isPlate r (Clr.plate x)=true->Clr.plate x < (↑(nwLen r (Clr.found x).toNat r.found.length):Int)))
 (o6:q10_2 r x (isPlate r (Clr.plate x)=true->(Clr.plate x).toNat < nwLen r (Clr.found x).toNat r.found.length))
 (o7:q10_3 r x (0<=Clr.plate x))
 (o8:q10_3 r x (Clr.plate x < (↑(nwLen r (Clr.found x).toNat r.found.length):Int)))
 (o9:q10_3 r x ((Clr.plate x).toNat < nwLen r (Clr.found x).toNat r.found.length))
 (o10:q10_3 r x (nwLen r (Clr.found x).toNat r.found.length=(clrNew r x).length))
 (o11:q10_3 r x (∀ (i23:Nat),i23 < nwLen r (Clr.found x).toNat r.found.length->Decidable.rec (fun (h:¬i23=(Clr.plate x).toNat)=>[iv ((fnd r (Clr.found x).toNat).new.getD i23 0)]) (fun (h:i23=(Clr.plate x).toNat)=>[iv (Clr.new x)] ++ []) (instDecidableEqNat i23 (Clr.plate x).toNat) = [iv ((clrNew r x).getD i23 0)]))
 (o12:q10_4 r x (nwLen r (Clr.found x).toNat r.found.length=(clrNew r x).length))
 (o13:q10_4 r x (∀ (i35:Nat),i35 < nwLen r (Clr.found x).toNat r.found.length -> [iv ((fnd r (Clr.found x).toNat).new.getD i35 0)] = [iv ((clrNew r x).getD i35 0)]))
 (o14:q10_2 r x (0=(↑0:Int)))
 (o15:q10_2 r x ((clrTo r x 0).length=0))
 (o16:q10_2 r x (0<=(fnd r (Clr.found x).toNat).frm.length))
 (o17:q10_5 r x fun x47=>0<=(x47:Int))
 (o18:q10_5 r x fun x47=>(x47:Int) < (↑((fnd r (Clr.found x).toNat).frm.length):Int))
 (o19:q10_6 r x fun x47=>0<=(x47:Int))
 (o20:q10_6 r x fun x47=>(x47:Int) < (↑((fnd r (Clr.found x).toNat).frm.length):Int))
 (o21:q10_6 r x fun x47=>(clrTo r x x47).length + 1<=65536)
 (o22:q10_6 r x fun x47=>inI ((x47:Int) + 1))
 (o23:q10_6 r x fun x47=>(x47:Int) + 1=(↑(x47 + 1):Int))
 (o24:q10_6 r x fun x47=>(clrTo r x x47).length + 1=(clrTo r x (x47 + 1)).length)
 (o25:q10_6 r x fun x47 => ∀ (i70:Nat),i70 < (clrTo r x x47).length + 1->catF (clrTo r x x47).length (fun (k:Nat)=>[iv ((clrTo r x x47).getD k 0)]) (fun (j:Nat)=>List.getD [[iv ((fnd r (Clr.found x).toNat).frm.getD x47 0)]] j (TI.za ti3)) i70 = [iv ((clrTo r x (x47 + 1)).getD i70 0)])
 (o26:q10_6 r x fun x47=>x47 + 1<=(fnd r (Clr.found x).toNat).frm.length)
 (o27:q10_6 r x fun x47=>(fnd r (Clr.found x).toNat).frm.length - (x47 + 1) < (fnd r (Clr.found x).toNat).frm.length - x47)
 (o28:q10_7 r x fun x47=>inI ((x47:Int) + 1))
 (o29:q10_7 r x fun x47=>(x47:Int) + 1=(↑(x47 + 1):Int))
 (o30:q10_7 r x fun x47=>(clrTo r x x47).length=(clrTo r x (x47 + 1)).length)
 (o31:q10_7 r x fun x47 => ∀ (i82:Nat),i82 < (clrTo r x x47).length -> [iv ((clrTo r x x47).getD i82 0)] = [iv ((clrTo r x (x47 + 1)).getD i82 0)])
 (o32:q10_7 r x fun x47=>x47 + 1<=(fnd r (Clr.found x).toNat).frm.length)
 (o33:q10_7 r x fun x47=>(fnd r (Clr.found x).toNat).frm.length - (x47 + 1) < (fnd r (Clr.found x).toNat).frm.length - x47)
 (o34:q10_8 r x fun x47=>0<=Clr.found x)
 (o35:q10_8 r x fun x47=>Clr.found x < (↑(r.found.length):Int))
 (o36:q10_8 r x fun x47=>(Clr.found x).toNat < r.found.length)
 (o37:q10_8 r x fun x47 => ∀ (i84:Nat),i84 < r.found.length->i84 ≠ (Clr.found x).toNat->cFnd (fnd r i84)=cFnd (fnd (clr1 r x) i84))
 (o38:q10_8 r x fun x47=>(fnd r (Clr.found x).toNat).minute=(fnd (clr1 r x) (Clr.found x).toNat).minute)
 (o39:q10_8 r x fun x47=>(clrNew r x).length=(fnd (clr1 r x) (Clr.found x).toNat).new.length)
 (o40:q10_8 r x fun x47 => ∀ (i87:Nat),i87 < (fnd (clr1 r x) (Clr.found x).toNat).new.length -> [iv ((clrNew r x).getD i87 0)] = [iv ((fnd (clr1 r x) (Clr.found x).toNat).new.getD i87 0)])
 (o41:q10_8 r x fun x47=>(clrTo r x x47).length=(fnd (clr1 r x) (Clr.found x).toNat).frm.length)
 (o42:q10_8 r x fun x47 => ∀ (i89:Nat),i89 < (fnd (clr1 r x) (Clr.found x).toNat).frm.length -> [iv ((clrTo r x x47).getD i89 0)] = [iv ((fnd (clr1 r x) (Clr.found x).toNat).frm.getD i89 0)])
 (o43:q10_9 r x (∀ (i94:Nat),i94 < r.found.length->i94 ≠ (Clr.found x).toNat->cFnd (fnd r i94)=cFnd (fnd (clr1 r x) i94)))
 (o44:q10_9 r x ((fnd r (Clr.found x).toNat).minute=(fnd (clr1 r x) (Clr.found x).toNat).minute))
 (o45:q10_9 r x (nwLen r (Clr.found x).toNat r.found.length=(fnd (clr1 r x) (Clr.found x).toNat).new.length))
 (o46:q10_9 r x (∀ (i97:Nat),i97 < (fnd (clr1 r x) (Clr.found x).toNat).new.length -> [iv ((fnd r (Clr.found x).toNat).new.getD i97 0)] = [iv ((fnd (clr1 r x) (Clr.found x).toNat).new.getD i97 0)]))
 (o47:q10_9 r x ((fnd r (Clr.found x).toNat).frm.length=(fnd (clr1 r x) (Clr.found x).toNat).frm.length))
 (o48:q10_9 r x (∀ (i99:Nat),i99 < (fnd (clr1 r x) (Clr.found x).toNat).frm.length -> [iv ((fnd r (Clr.found x).toNat).frm.getD i99 0)] = [iv ((fnd (clr1 r x) (Clr.found x).toNat).frm.getD i99 0)]))
 (o49:q10_10 r x (0<=Clr.machine x))
 (o50:q10_10 r x (Clr.machine x < (↑(r.machines.length):Int)))
 (o51:q10_10 r x (0<=Clr.change x))
 (o52:q10_10 r x (Clr.change x < (↑((mach r (Clr.machine x).toNat).changes.length):Int)))
 (o53:q10_11 r x (0<=Clr.machine x))
 (o54:q10_11 r x (Clr.machine x < (↑(r.machines.length):Int)))
 (o55:q10_11 r x ((Clr.machine x).toNat < r.machines.length))
 (o56:q10_11 r x (0<=Clr.change x))
 (o57:q10_11 r x (Clr.change x < (↑(chLen r (Clr.machine x).toNat r.machines.length):Int)))
 (o58:q10_11 r x ((Clr.change x).toNat < chLen r (Clr.machine x).toNat r.machines.length))
 (o59:q10_11 r x (∀ (i146:Nat),i146 < r.machines.length->i146 ≠ (Clr.machine x).toNat->cMach (mach r i146)=cMach (mach (clrR r x) i146)))
 (o60:q10_11 r x (chLen r (Clr.machine x).toNat r.machines.length=(mach (clrR r x) (Clr.machine x).toNat).changes.length))
 (o61:q10_11 r x (∀ (i149:Nat),i149 < (mach (clrR r x) (Clr.machine x).toNat).changes.length->Decidable.rec (fun (h:¬i149=(Clr.change x).toNat)=>cSpan (chg (mach r (Clr.machine x).toNat) i149)) (fun (h:i149=(Clr.change x).toNat)=>[iv (Clr.span x).lo,iv (Clr.span x).hi] ++ []) (instDecidableEqNat i149 (Clr.change x).toNat) = [iv ((mach (clrR r x) (Clr.machine x).toNat).changes.getD i149 default).lo,iv ((mach (clrR r x) (Clr.machine x).toNat).changes.getD i149 default).hi]))
 (o62:q10_11 r x ((mach r (Clr.machine x).toNat).rate=(mach (clrR r x) (Clr.machine x).toNat).rate))
 (o63:q10_12 r x (∀ (i151:Nat),i151 < r.machines.length->i151 ≠ (Clr.machine x).toNat->cMach (mach r i151)=cMach (mach (clrR r x) i151)))
 (o64:q10_12 r x (chLen r (Clr.machine x).toNat r.machines.length=(mach (clrR r x) (Clr.machine x).toNat).changes.length))
 (o65:q10_12 r x (∀ (i154:Nat),i154 < (mach (clrR r x) (Clr.machine x).toNat).changes.length->cSpan (chg (mach r (Clr.machine x).toNat) i154) = [iv ((mach (clrR r x) (Clr.machine x).toNat).changes.getD i154 default).lo,iv ((mach (clrR r x) (Clr.machine x).toNat).changes.getD i154 default).hi]))
 (o66:q10_12 r x ((mach r (Clr.machine x).toNat).rate=(mach (clrR r x) (Clr.machine x).toNat).rate))
 (o67:q10_1 r x (r.plates=(clrR r x).plates))
 (o68:q10_1 r x (r.last=(clrR r x).last))
 (o69:q10_1 r x (r.machines.length=(clrR r x).machines.length))
 (o70:q10_1 r x (r.found.length=(clrR r x).found.length))
 (o71:q10_1 r x (∀ (i158:Nat),i158 < (clrR r x).found.length->cFnd (fnd (clr1 r x) i158)=cFnd (fnd (clrR r x) i158)))
 (o72:q10_1 r x (fits (clrR r x)))
 (o73:q10_13 r x (okRun r=true))
 (o74:q10_13 r x (isOne r=true))
 (o75:q10_13 r x (fits (clrR r x)))
 (o76:q10_13 r x (okRun (clrR r x)=true))
 (o77:q10_13 r x (isOne (clrR r x)=true))
 (o78:q10_13 r x (true=true->Clear (toldOf (clrR r x)) (toldOf r))) :
  Triple Try.prog 10 (s10 r x):=by
 refine triple_of Try.func10 rfl Try.call10 T0_ok _ rfl rfl rfl rfl (Nat.le_of_ble_eq_true (by kernel_rfl)) (fun _ _ _ _ h=>h) ?_
 intro hp C hC _ hE
 obtain ⟨P,w0,E0,av,hA⟩:=C
 subst hC
 refine swp_seq ?_
 refine sR (kt:=[2,3]) (kh:=[0,8]) (q:=True/\True/\True/\True) (st':=ASt.mk [(2,.ptr 0 []),(3,.ptr 8 [])] [(0,.cells 25 (cRun r)),(8,.cells 68 (cClr x))] 24) (by kernel_rfl) ⟨tv,tv,tv,tv⟩ ?_
 refine swp_seq (swp_seq ?_)
 refine swp_region T0_ok mixed (cs:=[(1,CallSpec.eq (s21 r) [true])]) (kt:=[2,3,15]) (kh:=[0,8]) (q:=True/\((AV.agg (cRun r)=AV.agg (cRun r)/\True)/\Triple Try.prog 21 (s21 r)/\fits r/\True /\ ∀ (i0:Env),True)/\True/\True) (st':=ASt.mk [(2,.ptr 0 []),(3,.ptr 8 []),(15,bv !known6 r)] [(0,.cells 25 (cRun r)),(8,.cells 68 (cClr x))] 48) (by kernel_rfl) ⟨tv,⟨⟨rfl,tv⟩,(t21 (r)),hp,tv,(fun i0=>tv)⟩,tv,tv⟩ ?_
 refine swp_cond (!known6 r) (by kernel_rfl) (fun h1 => ?_) (fun h1 => ?_)
 ·refine swp_seq ?_
  refine swp_region T0_ok mixed (cs:=[(0,CallSpec.eq s19 [])]) (kt:=[4]) (kh:=[]) (q:=(True/\Triple Try.prog 19 s19/\True/\True /\ ∀ (i2:Env),True)/\True/\True) (st':=ASt.mk [(4,bv true)] [] 64) (by kernel_rfl) ⟨⟨tv,(t19),tv,tv,(fun i2=>tv)⟩,tv,tv⟩ ?_
  refine swp_ret ?_
  exact ret_q [] ((True/\True)/\(bv true=bv true/\nilN = [])/\T3) (by kernel_rfl) ⟨⟨tv,tv⟩,⟨rfl,rfl⟩,rfl,rfl,rfl⟩
 ·refine swp_skip (swp_seq ?_)
  refine swp_region T0_ok mixed (cs:=[(1,CallSpec.eq (c10 r x 56) [true])]) (kt:=[2,3,5]) (kh:=[0,8,64,56,57,59,58]) (q:=True/\((AV.agg (cRun r)=AV.agg (cRun r)/\True)/\Triple Try.prog 20 (c10 r x 56)/\small r/\True /\ ∀ (i3:Env),True)/\True/\True/\True) (st':=ASt.mk [(2,.ptr 0 []),(3,.ptr 8 []),(5,.ptr 64 [])] [(0,.cells 25 (cRun r)),(8,.cells 68 (cClr x)),(64,.cells 25 [iv r.plates,iv r.last,.vec 56,.vec 57]),(56,.vecx 42 2 r.machines.length (fun (k:Nat)=>cMach (mach r k)) (Clr.machine x).toNat [.vec 58,iv (mach r (Clr.machine x).toNat).rate]),(57,.vecx 32 3 r.found.length (fun (k:Nat)=>cFnd (fnd r k)) (Clr.found x).toNat [iv (fnd r (Clr.found x).toNat).minute,.vec 59,.sl 1 (fnd r (Clr.found x).toNat).frm.length fun (i:Nat)=>[iv ((fnd r (Clr.found x).toNat).frm.getD i 0)]]),(59,.vec 3 1 (nwLen r (Clr.found x).toNat r.found.length) fun (p:Nat)=>[iv ((fnd r (Clr.found x).toNat).new.getD p 0)]),(58,.vec 37 2 (chLen r (Clr.machine x).toNat r.machines.length) fun (p:Nat)=>cSpan (chg (mach r (Clr.machine x).toNat) p))] 80) (by kernel_rfl) ⟨tv,⟨⟨rfl,tv⟩,(t20o (r) (Clr.machine x).toNat (Clr.found x).toNat (56)),(o0 hp h1),tv,(fun i3=>tv)⟩,tv,tv,tv⟩ ?_
  refine swp_seq (swp_seq ?_)
  refine swp_region T0_ok mixed (cs:=[(3,CallSpec.eq (s45 r (Clr.found x)) [true,true])]) (kt:=[2,3,5,22]) (kh:=[0,8,64,56,57,58,59]) (q:=True/\True/\True/\((AV.agg (cRun r)=AV.agg (cRun r)/\iv (Clr.found x)=iv (Clr.found x)/\True)/\Triple Try.prog 45 (s45 r (Clr.found x))/\fits r/\True /\ ∀ (i4:Env),True)/\True) (st':=ASt.mk [(2,.ptr 0 []),(3,.ptr 8 []),(5,.ptr 64 []),(22,bv (isFound r (Clr.found x)))] [(0,.cells 25 (cRun r)),(8,.cells 68 (cClr x)),(64,.cells 25 [iv r.plates,iv r.last,.vec 56,.vec 57]),(56,.vecx 42 2 r.machines.length (fun (k:Nat)=>cMach (mach r k)) (Clr.machine x).toNat [.vec 58,iv (mach r (Clr.machine x).toNat).rate]),(57,.vecx 32 3 r.found.length (fun (k:Nat)=>cFnd (fnd r k)) (Clr.found x).toNat [iv (fnd r (Clr.found x).toNat).minute,.vec 59,.sl 1 (fnd r (Clr.found x).toNat).frm.length fun (i:Nat)=>[iv ((fnd r (Clr.found x).toNat).frm.getD i 0)]]),(58,.vec 37 2 (chLen r (Clr.machine x).toNat r.machines.length) fun (p:Nat)=>cSpan (chg (mach r (Clr.machine x).toNat) p)),(59,.vec 3 1 (nwLen r (Clr.found x).toNat r.found.length) fun (p:Nat)=>[iv ((fnd r (Clr.found x).toNat).new.getD p 0)])] 112) (by kernel_rfl) ⟨tv,tv,tv,⟨⟨rfl,rfl,tv⟩,(t45 (r) (Clr.found x)),hp,tv,(fun i4=>tv)⟩,tv⟩ ?_
  refine swp_join2 (ASt.mk [(2,AV.ptr 0 []),(3,AV.ptr 8 []),(5,AV.ptr 64 [])] [(57,OB.vec 32 3 r.found.length fun (k:Nat)=>cFnd (fnd (clr1 r x) k)),(0,OB.cells 25 (cRun r)),(8,OB.cells 68 (cClr x)),(64,OB.cells 25 [iv r.plates,iv r.last,AV.vec 56,AV.vec 57]),(56,OB.vecx 42 2 r.machines.length (fun (k:Nat)=>cMach (mach r k)) (Clr.machine x).toNat [AV.vec 58,iv (mach r (Clr.machine x).toNat).rate]),(58,OB.vec 37 2 (chLen r (Clr.machine x).toNat r.machines.length) fun (p:Nat)=>cSpan (chg (mach r (Clr.machine x).toNat) p))] 10112) ?_ ?_
  ·refine swp_seq (swp_seq ?_)
   refine swp_region T0_ok mixed (cs:=[(3,CallSpec.eq (s18 r (Clr.machine x)) [true,true]),(8,CallSpec.eq (s25 r (Clr.change x)) [true,true]),(24,CallSpec.eq (s28 (Clr.span x) ((mach r (Clr.machine x).toNat).changes.getD (Clr.change x).toNat default)) [true,true])]) (kt:=[2,3,5,105]) (kh:=[0,8,64,56,57,58]) (q:=True/\True/\True/\((AV.agg (cRun r)=AV.agg (cRun r)/\iv (Clr.machine x)=iv (Clr.machine x)/\True)/\Triple Try.prog 18 (s18 r (Clr.machine x))/\fits r/\True /\ ∀ (i104:Env),True)/\True/\(isMachine r (Clr.machine x)=true->(True/\True)/\True)/\(isMachine r (Clr.machine x)=true->(True/\True)/\True)/\(isMachine r (Clr.machine x)=true->((isMachine r (Clr.machine x)=true->isMachine r (Clr.machine x)=true)/\True)/\True)/\(isMachine r (Clr.machine x)=true->(True/\(isMachine r (Clr.machine x)=true->isMachine r (Clr.machine x)=true)/\(isMachine r (Clr.machine x)=true->isMachine r (Clr.machine x)=true)/\True)/\(AV.agg (cRun r)=AV.agg (cRun r)/\iv (Clr.change x)=iv (Clr.change x)/\True)/\Triple Try.prog 25 (s25 r (Clr.change x))/\fits r/\True /\ ∀ (i112:Env),True)/\((isMachine r (Clr.machine x)=true->isMachine r (Clr.machine x)=true)/\(isMachine r (Clr.machine x)=false->True))/\True/\((bif isMachine r (Clr.machine x) then isPlate r (Clr.change x) else false)=true->(True/\True)/\True)/\((bif isMachine r (Clr.machine x) then isPlate r (Clr.change x) else false)=true->(((bif isMachine r (Clr.machine x) then isPlate r (Clr.change x) else false)=true->(bif isMachine r (Clr.machine x) then isPlate r (Clr.change x) else false)=true)/\True)/\True)/\((bif isMachine r (Clr.machine x) then isPlate r (Clr.change x) else false)=true->(True/\True)/\True)/\((bif isMachine r (Clr.machine x) then isPlate r (Clr.change x) else false)=true->(((bif isMachine r (Clr.machine x) then isPlate r (Clr.change x) else false)=true->(bif isMachine r (Clr.machine x) then isPlate r (Clr.change x) else false)=true)/\True)/\True)/\((bif isMachine r (Clr.machine x) then isPlate r (Clr.change x) else false)=true->(True/\True)/\True)/\((bif isMachine r (Clr.machine x) then isPlate r (Clr.change x) else false)=true->(((bif isMachine r (Clr.machine x) then isPlate r (Clr.change x) else false)=true->(bif isMachine r (Clr.machine x) then isPlate r (Clr.change x) else false)=true)/\True)/\True)/\((bif isMachine r (Clr.machine x) then isPlate r (Clr.change x) else false)=true->(((bif isMachine r (Clr.machine x) then isPlate r (Clr.change x) else false)=true->(bif isMachine r (Clr.machine x) then isPlate r (Clr.change x) else false)=true)/\((bif isMachine r (Clr.machine x) then isPlate r (Clr.change x) else false)=true->(bif isMachine r (Clr.machine x) then isPlate r (Clr.change x) else false)=true)/\True)/\0<=Clr.machine x/\Clr.machine x < (↑(r.machines.length):Int))/\((bif isMachine r (Clr.machine x) then isPlate r (Clr.change x) else false)=true->(((bif isMachine r (Clr.machine x) then isPlate r (Clr.change x) else false)=true->(bif isMachine r (Clr.machine x) then isPlate r (Clr.change x) else false)=true)/\True)/\True)/\((bif isMachine r (Clr.machine x) then isPlate r (Clr.change x) else false)=true->(((bif isMachine r (Clr.machine x) then isPlate r (Clr.change x) else false)=true->(bif isMachine r (Clr.machine x) then isPlate r (Clr.change x) else false)=true)/\True)/\True)/\((bif isMachine r (Clr.machine x) then isPlate r (Clr.change x) else false)=true->(True/\True)/\True)/\((bif isMachine r (Clr.machine x) then isPlate r (Clr.change x) else false)=true->(((bif isMachine r (Clr.machine x) then isPlate r (Clr.change x) else false)=true->(bif isMachine r (Clr.machine x) then isPlate r (Clr.change x) else false)=true)/\True)/\True)/\((bif isMachine r (Clr.machine x) then isPlate r (Clr.change x) else false)=true->(((bif isMachine r (Clr.machine x) then isPlate r (Clr.change x) else false)=true->(bif isMachine r (Clr.machine x) then isPlate r (Clr.change x) else false)=true)/\((bif isMachine r (Clr.machine x) then isPlate r (Clr.change x) else false)=true->(bif isMachine r (Clr.machine x) then isPlate r (Clr.change x) else false)=true)/\True)/\0<=Clr.change x/\Clr.change x < (↑((mach r (Clr.machine x).toNat).changes.length):Int))/\((bif isMachine r (Clr.machine x) then isPlate r (Clr.change x) else false)=true->(((bif isMachine r (Clr.machine x) then isPlate r (Clr.change x) else false)=true->(bif isMachine r (Clr.machine x) then isPlate r (Clr.change x) else false)=true)/\True)/\True)/\((bif isMachine r (Clr.machine x) then isPlate r (Clr.change x) else false)=true->(True/\((bif isMachine r (Clr.machine x) then isPlate r (Clr.change x) else false)=true->(bif isMachine r (Clr.machine x) then isPlate r (Clr.change x) else false)=true)/\((bif isMachine r (Clr.machine x) then isPlate r (Clr.change x) else false)=true->(bif isMachine r (Clr.machine x) then isPlate r (Clr.change x) else false)=true)/\True)/\(AV.agg (cSpan (Clr.span x))=AV.agg (cSpan (Clr.span x))/\AV.agg (cSpan ((mach r (Clr.machine x).toNat).changes.getD (Clr.change x).toNat default))=AV.agg (cSpan ((mach r (Clr.machine x).toNat).changes.getD (Clr.change x).toNat default))/\True)/\Triple Try.prog 28 (s28 (Clr.span x) ((mach r (Clr.machine x).toNat).changes.getD (Clr.change x).toNat default))/\True/\True /\ ∀ (i142:Env),True)/\(((bif isMachine r (Clr.machine x) then isPlate r (Clr.change x) else false)=true->(bif isMachine r (Clr.machine x) then isPlate r (Clr.change x) else false)=true)/\((bif isMachine r (Clr.machine x) then isPlate r (Clr.change x) else false)=false->True))/\True) (st':=ASt.mk [(2,.ptr 0 []),(3,.ptr 8 []),(5,.ptr 64 []),(105,bv (bif bif isMachine r (Clr.machine x) then isPlate r (Clr.change x) else false then inside (Clr.span x) ((mach r (Clr.machine x).toNat).changes.getD (Clr.change x).toNat default) else false))] [(0,.cells 25 (cRun r)),(8,.cells 68 (cClr x)),(64,.cells 25 [iv r.plates,iv r.last,.vec 56,.vec 57]),(56,.vecx 42 2 r.machines.length (fun (k:Nat)=>cMach (mach r k)) (Clr.machine x).toNat [.vec 58,iv (mach r (Clr.machine x).toNat).rate]),(57,.vec 32 3 r.found.length fun (k:Nat)=>cFnd (fnd (clr1 r x) k)),(58,.vec 37 2 (chLen r (Clr.machine x).toNat r.machines.length) fun (p:Nat)=>cSpan (chg (mach r (Clr.machine x).toNat) p))] 10320) (by kernel_rfl) ⟨tv,tv,tv,⟨⟨rfl,rfl,tv⟩,(t18 (r) (Clr.machine x)),hp,tv,(fun i104=>tv)⟩,tv,(fun h105=>⟨⟨tv,tv⟩,tv⟩),(fun h106=>⟨⟨tv,tv⟩,tv⟩),(fun h107=>⟨⟨(fun h108=>h107),tv⟩,tv⟩),(fun h109=>⟨⟨tv,(fun h110=>h109),(fun h111=>h109),tv⟩,⟨rfl,rfl,tv⟩,(t25 (r) (Clr.change x)),hp,tv,(fun i112=>tv)⟩),⟨(fun h113=>h113),(fun h114=>tv)⟩,tv,(fun h115=>⟨⟨tv,tv⟩,tv⟩),(fun h116=>⟨⟨(fun h117=>h116),tv⟩,tv⟩),(fun h118=>⟨⟨tv,tv⟩,tv⟩),(fun h119=>⟨⟨(fun h120=>h119),tv⟩,tv⟩),(fun h121=>⟨⟨tv,tv⟩,tv⟩),(fun h122=>⟨⟨(fun h123=>h122),tv⟩,tv⟩),(fun h124=>⟨⟨(fun h125=>h124),(fun h126=>h124),tv⟩,(o49 hp h1 h124),(o50 hp h1 h124)⟩),(fun h127=>⟨⟨(fun h128=>h127),tv⟩,tv⟩),(fun h129=>⟨⟨(fun h130=>h129),tv⟩,tv⟩),(fun h131=>⟨⟨tv,tv⟩,tv⟩),(fun h132=>⟨⟨(fun h133=>h132),tv⟩,tv⟩),(fun h134=>⟨⟨(fun h135=>h134),(fun h136=>h134),tv⟩,(o51 hp h1 h134),(o52 hp h1 h134)⟩),(fun h137=>⟨⟨(fun h138=>h137),tv⟩,tv⟩),(fun h139=>⟨⟨tv,(fun h140=>h139),(fun h141=>h139),tv⟩,⟨rfl,rfl,tv⟩,(t28 (Clr.span x) ((mach r (Clr.machine x).toNat).changes.getD (Clr.change x).toNat default)),tv,tv,(fun i142=>tv)⟩),⟨(fun h143=>h143),(fun h144=>tv)⟩,tv⟩ ?_
   refine swp_join2 (ASt.mk [(2,AV.ptr 0 []),(5,AV.ptr 64 [])] [(56,OB.vec 42 2 r.machines.length fun (k:Nat)=>cMach (mach (clrR r x) k)),(0,OB.cells 25 (cRun r)),(64,OB.cells 25 [iv r.plates,iv r.last,AV.vec 56,AV.vec 57]),(57,OB.vec 32 3 r.found.length fun (k:Nat)=>cFnd (fnd (clr1 r x) k))] 20320) ?_ ?_
   ·refine swp_seq (swp_seq ?_)
    refine swp_ent (ent_q (st2:=ASt.mk [(2,AV.ptr 0 []),(5,AV.ptr 64 [])] [(64,OB.cells 25 (cRun (clrR r x))),(0,OB.cells 25 (cRun r))] 20320) hE [56,57] [(0,.same 0),(64,.same 64)] [] [0] (((some (Src.same 0)=some (Src.same 0)/\nilP = [])/\(some (Src.same 64)=some (Src.same 64)/\nilP = [])/\True)/\((25=25/\((iv r.plates=iv (clrR r x).plates/\nilN = [])/\(iv r.last=iv (clrR r x).last/\nilN = [])/\(2=2/\r.machines.length=(clrR r x).machines.length /\ ∀ (i156:Nat),i156 < (clrR r x).machines.length->cMach (mach (clrR r x) i156)=cMach (mach (clrR r x) i156))/\(3=3/\r.found.length=(clrR r x).found.length /\ ∀ (i158:Nat),i158 < (clrR r x).found.length->cFnd (fnd (clr1 r x) i158)=cFnd (fnd (clrR r x) i158))/\True)/\true=true)/\(OB.cells 25 (cRun r)=OB.cells 25 (cRun r)/\true=true)/\True)/\T2) (by kernel_rfl) (by kernel_rfl) ⟨⟨⟨rfl,rfl⟩,⟨rfl,rfl⟩,tv⟩,⟨⟨rfl,⟨⟨(congrArg iv (o67 hp h1)),rfl⟩,⟨(congrArg iv (o68 hp h1)),rfl⟩,⟨rfl,(o69 hp h1),(fun i156=>(fun h157=>rfl))⟩,⟨rfl,(o70 hp h1),(fun i158=>(fun h159=>(o71 hp h1 i158 h159)))⟩,tv⟩,rfl⟩,⟨rfl,rfl⟩,tv⟩,rfl,rfl⟩) ?_
    refine swp_region T0_ok mixed (cs:=[(1,CallSpec.eq (s21 (clrR r x)) [true])]) (kt:=[2,5,120]) (kh:=[0,64]) (q:=True/\((AV.agg (cRun (clrR r x))=AV.agg (cRun (clrR r x))/\True)/\Triple Try.prog 21 (s21 (clrR r x))/\fits (clrR r x)/\True /\ ∀ (i160:Env),True)/\True/\True) (st':=ASt.mk [(2,.ptr 0 []),(5,.ptr 64 []),(120,bv !known6 (clrR r x))] [(0,.cells 25 (cRun r)),(64,.cells 25 (cRun (clrR r x)))] 20344) (by kernel_rfl) ⟨tv,⟨⟨rfl,tv⟩,(t21 (clrR r x)),(o72 hp h1),tv,(fun i160=>tv)⟩,tv,tv⟩ ?_
    refine swp_cond (!known6 (clrR r x)) (by kernel_rfl) (fun h161 => ?_) (fun h161 => ?_)
    ·refine swp_seq ?_
     refine swp_region T0_ok mixed (cs:=[(0,CallSpec.eq s19 [])]) (kt:=[4]) (kh:=[]) (q:=(True/\Triple Try.prog 19 s19/\True/\True /\ ∀ (i162:Env),True)/\True/\True) (st':=ASt.mk [(4,bv true)] [] 20360) (by kernel_rfl) ⟨⟨tv,(t19),tv,tv,(fun i162=>tv)⟩,tv,tv⟩ ?_
     refine swp_ret ?_
     exact ret_q [] ((True/\True)/\(bv true=bv true/\nilN = [])/\T3) (by kernel_rfl) ⟨⟨tv,tv⟩,⟨rfl,rfl⟩,rfl,rfl,rfl⟩
    ·refine swp_skip (swp_seq ?_)
     refine swp_region T0_ok mixed (cs:=[(1,CallSpec.eq (s47 r) [true])]) (kt:=[5,9,10]) (kh:=[64,20384]) (q:=True/\((AV.agg (cRun r)=AV.agg (cRun r)/\True)/\Triple Try.prog 47 (s47 r)/\(fits r/\okRun r=true/\isOne r=true)/\True /\ ∀ (i163:Env),True)/\True/\True/\True/\True/\True/\True/\True) (st':=ASt.mk [(5,.ptr 64 []),(9,.ptr 20384 []),(10,bv true)] [(64,.cells 25 (cRun (clrR r x))),(20384,.cells 62 (cTld (toldOf r)))] 20408) (by kernel_rfl) ⟨tv,⟨⟨rfl,tv⟩,(t47 (r)),⟨hp,(o73 hp h1 h161),(o74 hp h1 h161)⟩,tv,(fun i163=>tv)⟩,tv,tv,tv,tv,tv,tv,tv⟩ ?_
     refine swp_seq ?_
     refine swp_region T0_ok mixed (cs:=[(1,CallSpec.eq (s47 (clrR r x)) [true])]) (kt:=[9,10,11,12]) (kh:=[20384,20448]) (q:=True/\((AV.agg (cRun (clrR r x))=AV.agg (cRun (clrR r x))/\True)/\Triple Try.prog 47 (s47 (clrR r x))/\(fits (clrR r x)/\okRun (clrR r x)=true/\isOne (clrR r x)=true)/\True /\ ∀ (i164:Env),True)/\True/\True/\True/\True/\True/\True/\True) (st':=ASt.mk [(9,.ptr 20384 []),(10,bv true),(11,.ptr 20448 []),(12,bv true)] [(20384,.cells 62 (cTld (toldOf r))),(20448,.cells 62 (cTld (toldOf (clrR r x))))] 20472) (by kernel_rfl) ⟨tv,⟨⟨rfl,tv⟩,(t47 (clrR r x)),⟨(o75 hp h1 h161),(o76 hp h1 h161),(o77 hp h1 h161)⟩,tv,(fun i164=>tv)⟩,tv,tv,tv,tv,tv,tv,tv⟩ ?_
     refine swp_seq ?_
     refine swp_region T0_ok mixed (cs:=[(7,CallSpec.eq (s48 (toldOf (clrR r x)) (toldOf r)) [true,true]),(10,CallSpec.eq s19 [])]) (kt:=[4]) (kh:=[]) (q:=True/\True/\(true=true->(True/\True)/\True)/\((true=true->true=true)/\(true=false->True))/\True/\(true=true->(True/\True)/\True)/\(true=true->(True/\True)/\True)/\(true=true->(True/\(true=true->true=true)/\(true=true->true=true)/\True)/\(AV.agg (cTld (toldOf (clrR r x)))=AV.agg (cTld (toldOf (clrR r x)))/\AV.agg (cTld (toldOf r))=AV.agg (cTld (toldOf r))/\True)/\Triple Try.prog 48 (s48 (toldOf (clrR r x)) (toldOf r))/\Clear (toldOf (clrR r x)) (toldOf r)/\True /\ ∀ (i173:Env),True)/\((true=true->true=true)/\(true=false->True))/\True/\(true=true->(True/\True)/\True/\Triple Try.prog 19 s19/\True/\True /\ ∀ (i177:Env),True)/\((true=true->true=true)/\(true=false->True))/\True/\True) (st':=ASt.mk [(4,bv true)] [] 20576) (by kernel_rfl) ⟨tv,tv,(fun h165=>⟨⟨tv,tv⟩,tv⟩),⟨(fun h166=>rfl),(fun h167=>tv)⟩,tv,(fun h168=>⟨⟨tv,tv⟩,tv⟩),(fun h169=>⟨⟨tv,tv⟩,tv⟩),(fun h170=>⟨⟨tv,(fun h171=>rfl),(fun h172=>rfl),tv⟩,⟨rfl,rfl,tv⟩,(t48 (toldOf (clrR r x)) (toldOf r)),(o78 hp h1 h161 h170),tv,(fun i173=>tv)⟩),⟨(fun h174=>rfl),(fun h175=>tv)⟩,tv,(fun h176=>⟨⟨tv,tv⟩,tv,(t19),tv,tv,(fun i177=>tv)⟩),⟨(fun h178=>rfl),(fun h179=>tv)⟩,tv,tv⟩ ?_
     refine swp_ret ?_
     exact ret_q [] ((True/\True)/\(bv true=bv true/\nilN = [])/\T3) (by kernel_rfl) ⟨⟨tv,tv⟩,⟨rfl,rfl⟩,rfl,rfl,rfl⟩
   ·refine swp_cond (bif bif isMachine r (Clr.machine x) then isPlate r (Clr.change x) else false then inside (Clr.span x) ((mach r (Clr.machine x).toNat).changes.getD (Clr.change x).toNat default) else false) (by kernel_rfl) (fun h145 => ?_) (fun h145 => ?_)
    ·refine sR (kt:=[2,5]) (kh:=[0,64,56,57,58]) (q:=True/\True/\True/\True/\(0<=Clr.machine x/\Clr.machine x < (↑(r.machines.length):Int))/\True/\((Clr.machine x).toNat=(Clr.machine x).toNat/\(Clr.machine x).toNat < r.machines.length/\True)/\True/\True/\True/\True/\(0<=Clr.change x/\Clr.change x < (↑(chLen r (Clr.machine x).toNat r.machines.length):Int))/\((Clr.change x).toNat < chLen r (Clr.machine x).toNat r.machines.length/\True)/\True) (st':=ASt.mk [(2,.ptr 0 []),(5,.ptr 64 [])] [(0,.cells 25 (cRun r)),(64,.cells 25 [iv r.plates,iv r.last,.vec 56,.vec 57]),(56,.vecx 42 2 r.machines.length (fun (k:Nat)=>cMach (mach r k)) (Clr.machine x).toNat [.vec 58,iv (mach r (Clr.machine x).toNat).rate]),(57,.vec 32 3 r.found.length fun (k:Nat)=>cFnd (fnd (clr1 r x) k)),(58,.vec 37 2 (chLen r (Clr.machine x).toNat r.machines.length) fun (j:Nat)=>Decidable.rec (fun (h:¬j=(Clr.change x).toNat)=>cSpan (chg (mach r (Clr.machine x).toNat) j)) (fun (h:j=(Clr.change x).toNat)=>[iv (Clr.span x).lo,iv (Clr.span x).hi] ++ []) (instDecidableEqNat j (Clr.change x).toNat))] 10424) (by kernel_rfl) ⟨tv,tv,tv,tv,⟨(o53 hp h1 h145),(o54 hp h1 h145)⟩,tv,⟨rfl,(o55 hp h1 h145),tv⟩,tv,tv,tv,tv,⟨(o56 hp h1 h145),(o57 hp h1 h145)⟩,⟨(o58 hp h1 h145),tv⟩,tv⟩ ?_
     exact join_end (ent_q hE [58] [(0,.same 0),(64,.same 64),(56,.same 56),(57,.same 57)] [] [0,57] (((some (Src.same 0)=some (Src.same 0)/\nilP = [])/\(some (Src.same 64)=some (Src.same 64)/\nilP = [])/\True)/\((42=42/\2=2/\r.machines.length=r.machines.length/\(∀ (i146:Nat),i146 < r.machines.length->i146 ≠ (Clr.machine x).toNat->cMach (mach r i146)=cMach (mach (clrR r x) i146))/\((2=2/\chLen r (Clr.machine x).toNat r.machines.length=(mach (clrR r x) (Clr.machine x).toNat).changes.length /\ ∀ (i149:Nat),i149 < (mach (clrR r x) (Clr.machine x).toNat).changes.length->Decidable.rec (fun (h:¬i149=(Clr.change x).toNat)=>cSpan (chg (mach r (Clr.machine x).toNat) i149)) (fun (h:i149=(Clr.change x).toNat)=>[iv (Clr.span x).lo,iv (Clr.span x).hi] ++ []) (instDecidableEqNat i149 (Clr.change x).toNat) = [iv ((mach (clrR r x) (Clr.machine x).toNat).changes.getD i149 default).lo,iv ((mach (clrR r x) (Clr.machine x).toNat).changes.getD i149 default).hi])/\(iv (mach r (Clr.machine x).toNat).rate=iv (mach (clrR r x) (Clr.machine x).toNat).rate/\nilN = [])/\True)/\T2)/\(OB.cells 25 (cRun r)=OB.cells 25 (cRun r)/\true=true)/\(25=25/\((iv r.plates=iv r.plates/\nilN = [])/\(iv r.last=iv r.last/\nilN = [])/\some (Src.same 56)=some (Src.same 56)/\some (Src.same 57)=some (Src.same 57)/\True)/\true=true)/\(((OB.vec 32 3 r.found.length fun (k:Nat)=>cFnd (fnd (clr1 r x) k))=OB.vec 32 3 r.found.length fun (k:Nat)=>cFnd (fnd (clr1 r x) k))/\true=true)/\True)/\T2) (by kernel_rfl) (by kernel_rfl) ⟨⟨⟨rfl,rfl⟩,⟨rfl,rfl⟩,tv⟩,⟨⟨rfl,rfl,rfl,(fun i146=>(fun h147=>(fun h148=>(o59 hp h1 h145 i146 h147 h148)))),⟨⟨rfl,(o60 hp h1 h145),(fun i149=>(fun h150=>(o61 hp h1 h145 i149 h150)))⟩,⟨(congrArg iv (o62 hp h1 h145)),rfl⟩,tv⟩,rfl,rfl⟩,⟨rfl,rfl⟩,⟨rfl,⟨⟨rfl,rfl⟩,⟨rfl,rfl⟩,rfl,rfl,tv⟩,rfl⟩,⟨rfl,rfl⟩,tv⟩,rfl,rfl⟩)
    ·refine swp_skip ?_
     exact join_end (ent_q hE [58] [(0,.same 0),(64,.same 64),(56,.same 56),(57,.same 57)] [] [0,57] (((some (Src.same 0)=some (Src.same 0)/\nilP = [])/\(some (Src.same 64)=some (Src.same 64)/\nilP = [])/\True)/\((42=42/\2=2/\r.machines.length=r.machines.length/\(∀ (i151:Nat),i151 < r.machines.length->i151 ≠ (Clr.machine x).toNat->cMach (mach r i151)=cMach (mach (clrR r x) i151))/\((2=2/\chLen r (Clr.machine x).toNat r.machines.length=(mach (clrR r x) (Clr.machine x).toNat).changes.length /\ ∀ (i154:Nat),i154 < (mach (clrR r x) (Clr.machine x).toNat).changes.length->cSpan (chg (mach r (Clr.machine x).toNat) i154) = [iv ((mach (clrR r x) (Clr.machine x).toNat).changes.getD i154 default).lo,iv ((mach (clrR r x) (Clr.machine x).toNat).changes.getD i154 default).hi])/\(iv (mach r (Clr.machine x).toNat).rate=iv (mach (clrR r x) (Clr.machine x).toNat).rate/\nilN = [])/\True)/\T2)/\(OB.cells 25 (cRun r)=OB.cells 25 (cRun r)/\true=true)/\(25=25/\((iv r.plates=iv r.plates/\nilN = [])/\(iv r.last=iv r.last/\nilN = [])/\some (Src.same 56)=some (Src.same 56)/\some (Src.same 57)=some (Src.same 57)/\True)/\true=true)/\(((OB.vec 32 3 r.found.length fun (k:Nat)=>cFnd (fnd (clr1 r x) k))=OB.vec 32 3 r.found.length fun (k:Nat)=>cFnd (fnd (clr1 r x) k))/\true=true)/\True)/\T2) (by kernel_rfl) (by kernel_rfl) ⟨⟨⟨rfl,rfl⟩,⟨rfl,rfl⟩,tv⟩,⟨⟨rfl,rfl,rfl,(fun i151=>(fun h152=>(fun h153=>(o63 hp h1 h145 i151 h152 h153)))),⟨⟨rfl,(o64 hp h1 h145),(fun i154=>(fun h155=>(o65 hp h1 h145 i154 h155)))⟩,⟨(congrArg iv (o66 hp h1 h145)),rfl⟩,tv⟩,rfl,rfl⟩,⟨rfl,rfl⟩,⟨rfl,⟨⟨rfl,rfl⟩,⟨rfl,rfl⟩,rfl,rfl,tv⟩,rfl⟩,⟨rfl,rfl⟩,tv⟩,rfl,rfl⟩)
  ·refine swp_cond (isFound r (Clr.found x)) (by kernel_rfl) (fun h5 => ?_) (fun h5 => ?_)
   ·refine swp_seq ?_
    refine sR (kt:=[2,3,5,6]) (kh:=[0,8,64,160,59,56,57,58]) (q:=True/\True/\True/\True/\(0<=Clr.found x/\Clr.found x < (↑(r.found.length):Int))/\((Clr.found x).toNat=(Clr.found x).toNat/\(Clr.found x).toNat < r.found.length/\True)/\True/\True/\True) (st':=ASt.mk [(2,.ptr 0 []),(3,.ptr 8 []),(5,.ptr 64 []),(6,.ptr 160 [])] [(0,.cells 25 (cRun r)),(8,.cells 68 (cClr x)),(64,.cells 25 [iv r.plates,iv r.last,.vec 56,.vec 57]),(160,.cells 32 [iv (fnd r (Clr.found x).toNat).minute,.vec 59,.sl 1 (fnd r (Clr.found x).toNat).frm.length fun (i:Nat)=>[iv ((fnd r (Clr.found x).toNat).frm.getD i 0)]]),(59,.vec 3 1 (nwLen r (Clr.found x).toNat r.found.length) fun (p:Nat)=>[iv ((fnd r (Clr.found x).toNat).new.getD p 0)]),(56,.vecx 42 2 r.machines.length (fun (k:Nat)=>cMach (mach r k)) (Clr.machine x).toNat [.vec 58,iv (mach r (Clr.machine x).toNat).rate]),(57,.vecx 32 3 r.found.length (fun (k:Nat)=>cFnd (fnd r k)) (Clr.found x).toNat [iv (fnd r (Clr.found x).toNat).minute,.vec 59,.sl 1 (fnd r (Clr.found x).toNat).frm.length fun (i:Nat)=>[iv ((fnd r (Clr.found x).toNat).frm.getD i 0)]]),(58,.vec 37 2 (chLen r (Clr.machine x).toNat r.machines.length) fun (p:Nat)=>cSpan (chg (mach r (Clr.machine x).toNat) p))] 176) (by kernel_rfl) ⟨tv,tv,tv,tv,⟨(o1 hp h1 h5),(o2 hp h1 h5)⟩,⟨rfl,(o3 hp h1 h5),tv⟩,tv,tv,tv⟩ ?_
    refine swp_seq (swp_seq ?_)
    refine swp_region T0_ok mixed (cs:=[(3,CallSpec.eq (s25 r (Clr.plate x)) [true,true])]) (kt:=[2,3,5,6,41]) (kh:=[0,8,64,160,56,57,59,58]) (q:=True/\True/\True/\((AV.agg (cRun r)=AV.agg (cRun r)/\iv (Clr.plate x)=iv (Clr.plate x)/\True)/\Triple Try.prog 25 (s25 r (Clr.plate x))/\fits r/\True /\ ∀ (i6:Env),True)/\True/\(isPlate r (Clr.plate x)=true->(True/\True)/\True)/\(isPlate r (Clr.plate x)=true->((isPlate r (Clr.plate x)=true->isPlate r (Clr.plate x)=true)/\True)/\True)/\(isPlate r (Clr.plate x)=true->(True/\True)/\True)/\(isPlate r (Clr.plate x)=true->((isPlate r (Clr.plate x)=true->isPlate r (Clr.plate x)=true)/\True)/\True)/\(isPlate r (Clr.plate x)=true->((isPlate r (Clr.plate x)=true->isPlate r (Clr.plate x)=true)/\(isPlate r (Clr.plate x)=true->isPlate r (Clr.plate x)=true)/\True)/\0<=Clr.plate x/\Clr.plate x < (↑(nwLen r (Clr.found x).toNat r.found.length):Int))/\(isPlate r (Clr.plate x)=true->((isPlate r (Clr.plate x)=true->isPlate r (Clr.plate x)=true)/\True)/\(Clr.plate x).toNat < nwLen r (Clr.found x).toNat r.found.length/\True)/\(isPlate r (Clr.plate x)=true->((isPlate r (Clr.plate x)=true->isPlate r (Clr.plate x)=true)/\True/\True)/\True)/\((isPlate r (Clr.plate x)=true->isPlate r (Clr.plate x)=true)/\(isPlate r (Clr.plate x)=false->True))/\True) (st':=ASt.mk [(2,.ptr 0 []),(3,.ptr 8 []),(5,.ptr 64 []),(6,.ptr 160 []),(41,bv (bif isPlate r (Clr.plate x) then decide ((fnd r (Clr.found x).toNat).new.getD (Clr.plate x).toNat 0 = -1) else false))] [(0,.cells 25 (cRun r)),(8,.cells 68 (cClr x)),(64,.cells 25 [iv r.plates,iv r.last,.vec 56,.vec 57]),(160,.cells 32 [iv (fnd r (Clr.found x).toNat).minute,.vec 59,.sl 1 (fnd r (Clr.found x).toNat).frm.length fun (i:Nat)=>[iv ((fnd r (Clr.found x).toNat).frm.getD i 0)]]),(56,.vecx 42 2 r.machines.length (fun (k:Nat)=>cMach (mach r k)) (Clr.machine x).toNat [.vec 58,iv (mach r (Clr.machine x).toNat).rate]),(57,.vecx 32 3 r.found.length (fun (k:Nat)=>cFnd (fnd r k)) (Clr.found x).toNat [iv (fnd r (Clr.found x).toNat).minute,.vec 59,.sl 1 (fnd r (Clr.found x).toNat).frm.length fun (i:Nat)=>[iv ((fnd r (Clr.found x).toNat).frm.getD i 0)]]),(59,.vec 3 1 (nwLen r (Clr.found x).toNat r.found.length) fun (p:Nat)=>[iv ((fnd r (Clr.found x).toNat).new.getD p 0)]),(58,.vec 37 2 (chLen r (Clr.machine x).toNat r.machines.length) fun (p:Nat)=>cSpan (chg (mach r (Clr.machine x).toNat) p))] 280) (by kernel_rfl) ⟨tv,tv,tv,⟨⟨rfl,rfl,tv⟩,(t25 (r) (Clr.plate x)),hp,tv,(fun i6=>tv)⟩,tv,(fun h7=>⟨⟨tv,tv⟩,tv⟩),(fun h8=>⟨⟨(fun h9=>h8),tv⟩,tv⟩),(fun h10=>⟨⟨tv,tv⟩,tv⟩),(fun h11=>⟨⟨(fun h12=>h11),tv⟩,tv⟩),(fun h13=>⟨⟨(fun h14=>h13),(fun h15=>h13),tv⟩,(o4 hp h1 h5 h13),(o5 hp h1 h5 h13)⟩),(fun h16=>⟨⟨(fun h17=>h16),tv⟩,(o6 hp h1 h5 h16),tv⟩),(fun h18=>⟨⟨(fun h19=>h18),tv,tv⟩,tv⟩),⟨(fun h20=>h20),(fun h21=>tv)⟩,tv⟩ ?_
    refine swp_join2 (ASt.mk [(2,AV.ptr 0 []),(3,AV.ptr 8 []),(5,AV.ptr 64 []),(6,AV.ptr 160 [])] [(59,OB.vec 3 1 (clrNew r x).length fun (p:Nat)=>[iv ((clrNew r x).getD p 0)]),(0,OB.cells 25 (cRun r)),(8,OB.cells 68 (cClr x)),(64,OB.cells 25 [iv r.plates,iv r.last,AV.vec 56,AV.vec 57]),(160,OB.cells 32 [iv (fnd r (Clr.found x).toNat).minute,AV.vec 59,AV.sl 1 (fnd r (Clr.found x).toNat).frm.length fun (i:Nat)=>[iv ((fnd r (Clr.found x).toNat).frm.getD i 0)]]),(56,OB.vecx 42 2 r.machines.length (fun (k:Nat)=>cMach (mach r k)) (Clr.machine x).toNat [AV.vec 58,iv (mach r (Clr.machine x).toNat).rate]),(57,OB.vecx 32 3 r.found.length (fun (k:Nat)=>cFnd (fnd r k)) (Clr.found x).toNat [iv (fnd r (Clr.found x).toNat).minute,AV.vec 59,AV.sl 1 (fnd r (Clr.found x).toNat).frm.length fun (i:Nat)=>[iv ((fnd r (Clr.found x).toNat).frm.getD i 0)]]),(58,OB.vec 37 2 (chLen r (Clr.machine x).toNat r.machines.length) fun (p:Nat)=>cSpan (chg (mach r (Clr.machine x).toNat) p))] 10280) ?_ ?_
    ·refine swp_seq ?_
     refine sR (kt:=[2,3,5,6,7]) (kh:=[0,8,64,160,56,57,59,58]) (q:=True/\True) (st':=ASt.mk [(2,.ptr 0 []),(3,.ptr 8 []),(5,.ptr 64 []),(6,.ptr 160 []),(7,nilv)] [(0,.cells 25 (cRun r)),(8,.cells 68 (cClr x)),(64,.cells 25 [iv r.plates,iv r.last,.vec 56,.vec 57]),(160,.cells 32 [iv (fnd r (Clr.found x).toNat).minute,.vec 59,.sl 1 (fnd r (Clr.found x).toNat).frm.length fun (i:Nat)=>[iv ((fnd r (Clr.found x).toNat).frm.getD i 0)]]),(56,.vecx 42 2 r.machines.length (fun (k:Nat)=>cMach (mach r k)) (Clr.machine x).toNat [.vec 58,iv (mach r (Clr.machine x).toNat).rate]),(57,.vecx 32 3 r.found.length (fun (k:Nat)=>cFnd (fnd r k)) (Clr.found x).toNat [iv (fnd r (Clr.found x).toNat).minute,.vec 59,.sl 1 (fnd r (Clr.found x).toNat).frm.length fun (i:Nat)=>[iv ((fnd r (Clr.found x).toNat).frm.getD i 0)]]),(59,.vec 3 1 (clrNew r x).length fun (p:Nat)=>[iv ((clrNew r x).getD p 0)]),(58,.vec 37 2 (chLen r (Clr.machine x).toNat r.machines.length) fun (p:Nat)=>cSpan (chg (mach r (Clr.machine x).toNat) p))] 10288) (by kernel_rfl) ⟨tv,tv⟩ ?_
     refine swp_seq (swp_seq ?_)
     refine sR (kt:=[2,3,5,6,7,8]) (kh:=[0,8,64,160,56,57,59,58]) (q:=True/\True) (st':=ASt.mk [(2,.ptr 0 []),(3,.ptr 8 []),(5,.ptr 64 []),(6,.ptr 160 []),(7,nilv),(8,iv 0)] [(0,.cells 25 (cRun r)),(8,.cells 68 (cClr x)),(64,.cells 25 [iv r.plates,iv r.last,.vec 56,.vec 57]),(160,.cells 32 [iv (fnd r (Clr.found x).toNat).minute,.vec 59,.sl 1 (fnd r (Clr.found x).toNat).frm.length fun (i:Nat)=>[iv ((fnd r (Clr.found x).toNat).frm.getD i 0)]]),(56,.vecx 42 2 r.machines.length (fun (k:Nat)=>cMach (mach r k)) (Clr.machine x).toNat [.vec 58,iv (mach r (Clr.machine x).toNat).rate]),(57,.vecx 32 3 r.found.length (fun (k:Nat)=>cFnd (fnd r k)) (Clr.found x).toNat [iv (fnd r (Clr.found x).toNat).minute,.vec 59,.sl 1 (fnd r (Clr.found x).toNat).frm.length fun (i:Nat)=>[iv ((fnd r (Clr.found x).toNat).frm.getD i 0)]]),(59,.vec 3 1 (clrNew r x).length fun (p:Nat)=>[iv ((clrNew r x).getD p 0)]),(58,.vec 37 2 (chLen r (Clr.machine x).toNat r.machines.length) fun (p:Nat)=>cSpan (chg (mach r (Clr.machine x).toNat) p))] 10296) (by kernel_rfl) ⟨tv,tv⟩ ?_
     refine swp_block ?_
     refine swp_loopA (Hint.ann (h10 r x) [(2,AV.ptr 0 []),(3,AV.ptr 8 []),(5,AV.ptr 64 []),(6,AV.ptr 160 [])] [(0,OB.cells 25 (cRun r)),(8,OB.cells 68 (cClr x)),(64,OB.cells 25 [iv r.plates,iv r.last,AV.vec 56,AV.vec 57]),(160,OB.cells 32 [iv (fnd r (Clr.found x).toNat).minute,AV.vec 59,AV.sl 1 (fnd r (Clr.found x).toNat).frm.length fun (i:Nat)=>[iv ((fnd r (Clr.found x).toNat).frm.getD i 0)]]),(56,OB.vecx 42 2 r.machines.length (fun (k:Nat)=>cMach (mach r k)) (Clr.machine x).toNat [AV.vec 58,iv (mach r (Clr.machine x).toNat).rate]),(57,OB.vecx 32 3 r.found.length (fun (k:Nat)=>cFnd (fnd r k)) (Clr.found x).toNat [iv (fnd r (Clr.found x).toNat).minute,AV.vec 59,AV.sl 1 (fnd r (Clr.found x).toNat).frm.length fun (i:Nat)=>[iv ((fnd r (Clr.found x).toNat).frm.getD i 0)]]),(59,OB.vec 3 1 (clrNew r x).length fun (p:Nat)=>[iv ((clrNew r x).getD p 0)]),(58,OB.vec 37 2 (chLen r (Clr.machine x).toNat r.machines.length) fun (p:Nat)=>cSpan (chg (mach r (Clr.machine x).toNat) p))] 20296) (ent_q hE [] [(0,.same 0),(8,.same 8),(64,.same 64),(56,.same 56),(58,.same 58),(57,.same 57),(59,.same 59),(160,.same 160),(5000,.nil)] [] [0,8,59,58] (((some (Src.same 0)=some (Src.same 0)/\nilP = [])/\(some (Src.same 8)=some (Src.same 8)/\nilP = [])/\(some (Src.same 64)=some (Src.same 64)/\nilP = [])/\(some (Src.same 160)=some (Src.same 160)/\nilP = [])/\(iv 0=iv (↑0:Int)/\nilN = [])/\some Src.nil=some Src.nil/\True)/\((OB.cells 25 (cRun r)=OB.cells 25 (cRun r)/\true=true)/\(OB.cells 68 (cClr x)=OB.cells 68 (cClr x)/\true=true)/\(25=25/\((iv r.plates=iv r.plates/\nilN = [])/\(iv r.last=iv r.last/\nilN = [])/\some (Src.same 56)=some (Src.same 56)/\some (Src.same 57)=some (Src.same 57)/\True)/\true=true)/\(32=32/\((iv (fnd r (Clr.found x).toNat).minute=iv (fnd r (Clr.found x).toNat).minute/\nilN = [])/\some (Src.same 59)=some (Src.same 59)/\(1=1/\(fnd r (Clr.found x).toNat).frm.length=(fnd r (Clr.found x).toNat).frm.length /\ ∀ (i48:Nat),i48 < (fnd r (Clr.found x).toNat).frm.length -> [iv ((fnd r (Clr.found x).toNat).frm.getD i48 0)] = [iv ((fnd r (Clr.found x).toNat).frm.getD i48 0)])/\True)/\true=true)/\(42=42/\2=2/\r.machines.length=r.machines.length/\(Clr.machine x).toNat=(Clr.machine x).toNat/\(∀ (i50:Nat),i50 < r.machines.length->i50 ≠ (Clr.machine x).toNat->cMach (mach r i50)=cMach (mach r i50))/\(some (Src.same 58)=some (Src.same 58)/\(iv (mach r (Clr.machine x).toNat).rate=iv (mach r (Clr.machine x).toNat).rate/\nilN = [])/\True)/\true=true)/\(32=32/\3=3/\r.found.length=r.found.length/\(Clr.found x).toNat=(Clr.found x).toNat/\(∀ (i53:Nat),i53 < r.found.length->i53 ≠ (Clr.found x).toNat->cFnd (fnd r i53)=cFnd (fnd r i53))/\((iv (fnd r (Clr.found x).toNat).minute=iv (fnd r (Clr.found x).toNat).minute/\nilN = [])/\some (Src.same 59)=some (Src.same 59)/\(1=1/\(fnd r (Clr.found x).toNat).frm.length=(fnd r (Clr.found x).toNat).frm.length /\ ∀ (i56:Nat),i56 < (fnd r (Clr.found x).toNat).frm.length -> [iv ((fnd r (Clr.found x).toNat).frm.getD i56 0)] = [iv ((fnd r (Clr.found x).toNat).frm.getD i56 0)])/\True)/\true=true)/\(((OB.vec 3 1 (clrNew r x).length fun (p:Nat)=>[iv ((clrNew r x).getD p 0)])=OB.vec 3 1 (clrNew r x).length fun (p:Nat)=>[iv ((clrNew r x).getD p 0)])/\true=true)/\(((OB.vec 37 2 (chLen r (Clr.machine x).toNat r.machines.length) fun (p:Nat)=>cSpan (chg (mach r (Clr.machine x).toNat) p))=OB.vec 37 2 (chLen r (Clr.machine x).toNat r.machines.length) fun (p:Nat)=>cSpan (chg (mach r (Clr.machine x).toNat) p))/\true=true)/\(clrTo r x 0).length=0/\True)/\T2) (by kernel_rfl) (by kernel_rfl) ⟨⟨⟨rfl,rfl⟩,⟨rfl,rfl⟩,⟨rfl,rfl⟩,⟨rfl,rfl⟩,⟨(congrArg iv (o14 hp h1 h5)),rfl⟩,rfl,tv⟩,⟨⟨rfl,rfl⟩,⟨rfl,rfl⟩,⟨rfl,⟨⟨rfl,rfl⟩,⟨rfl,rfl⟩,rfl,rfl,tv⟩,rfl⟩,⟨rfl,⟨⟨rfl,rfl⟩,rfl,⟨rfl,rfl,(fun i48=>(fun h49=>rfl))⟩,tv⟩,rfl⟩,⟨rfl,rfl,rfl,rfl,(fun i50=>(fun h51=>(fun h52=>rfl))),⟨rfl,⟨rfl,rfl⟩,tv⟩,rfl⟩,⟨rfl,rfl,rfl,rfl,(fun i53=>(fun h54=>(fun h55=>rfl))),⟨⟨rfl,rfl⟩,rfl,⟨rfl,rfl,(fun i56=>(fun h57=>rfl))⟩,tv⟩,rfl⟩,⟨rfl,rfl⟩,⟨rfl,rfl⟩,(o15 hp h1 h5),tv⟩,rfl,rfl⟩) (o16 hp h1 h5) (fun (x47:Nat) hx47 => ?_)
     refine swp_seq (swp_seq ?_)
     refine sR (kt:=[2,3,5,6,8,7,53]) (kh:=[0,8,64,160,5000,56,57,59,58]) (q:=True/\True/\True/\True/\True/\True) (st':=ASt.mk [(2,.ptr 0 []),(3,.ptr 8 []),(5,.ptr 64 []),(6,.ptr 160 []),(8,iv (x47:Int)),(7,.vec 5000),(53,bv (decide ((x47:Int) < (↑((fnd r (Clr.found x).toNat).frm.length):Int))))] [(0,.cells 25 (cRun r)),(8,.cells 68 (cClr x)),(64,.cells 25 [iv r.plates,iv r.last,.vec 56,.vec 57]),(160,.cells 32 [iv (fnd r (Clr.found x).toNat).minute,.vec 59,.sl 1 (fnd r (Clr.found x).toNat).frm.length fun (i:Nat)=>[iv ((fnd r (Clr.found x).toNat).frm.getD i 0)]]),(5000,.vec 3 1 (clrTo r x x47).length fun (k:Nat)=>[iv ((clrTo r x x47).getD k 0)]),(56,.vecx 42 2 r.machines.length (fun (k:Nat)=>cMach (mach r k)) (Clr.machine x).toNat [.vec 58,iv (mach r (Clr.machine x).toNat).rate]),(57,.vecx 32 3 r.found.length (fun (k:Nat)=>cFnd (fnd r k)) (Clr.found x).toNat [iv (fnd r (Clr.found x).toNat).minute,.vec 59,.sl 1 (fnd r (Clr.found x).toNat).frm.length fun (i:Nat)=>[iv ((fnd r (Clr.found x).toNat).frm.getD i 0)]]),(59,.vec 3 1 (clrNew r x).length fun (p:Nat)=>[iv ((clrNew r x).getD p 0)]),(58,.vec 37 2 (chLen r (Clr.machine x).toNat r.machines.length) fun (p:Nat)=>cSpan (chg (mach r (Clr.machine x).toNat) p))] 20336) (by kernel_rfl) ⟨tv,tv,tv,tv,tv,tv⟩ ?_
     refine swp_cond (decide ((x47:Int) < (↑((fnd r (Clr.found x).toNat).frm.length):Int))) (by kernel_rfl) (fun h58 => ?_) (fun h58 => ?_)
     ·refine swp_skip (swp_seq (swp_block (swp_seq ?_)))
      refine sR (kt:=[2,3,5,6,8,7,63]) (kh:=[0,8,64,160,5000,56,57,59,58]) (q:=True/\True/\True/\(0<=(x47:Int)/\(x47:Int) < (↑((fnd r (Clr.found x).toNat).frm.length):Int))/\True/\True/\True/\True/\True) (st':=ASt.mk [(2,.ptr 0 []),(3,.ptr 8 []),(5,.ptr 64 []),(6,.ptr 160 []),(8,iv (x47:Int)),(7,.vec 5000),(63,bv !decide ((fnd r (Clr.found x).toNat).frm.getD x47 0=Clr.not x))] [(0,.cells 25 (cRun r)),(8,.cells 68 (cClr x)),(64,.cells 25 [iv r.plates,iv r.last,.vec 56,.vec 57]),(160,.cells 32 [iv (fnd r (Clr.found x).toNat).minute,.vec 59,.sl 1 (fnd r (Clr.found x).toNat).frm.length fun (i:Nat)=>[iv ((fnd r (Clr.found x).toNat).frm.getD i 0)]]),(5000,.vec 3 1 (clrTo r x x47).length fun (k:Nat)=>[iv ((clrTo r x x47).getD k 0)]),(56,.vecx 42 2 r.machines.length (fun (k:Nat)=>cMach (mach r k)) (Clr.machine x).toNat [.vec 58,iv (mach r (Clr.machine x).toNat).rate]),(57,.vecx 32 3 r.found.length (fun (k:Nat)=>cFnd (fnd r k)) (Clr.found x).toNat [iv (fnd r (Clr.found x).toNat).minute,.vec 59,.sl 1 (fnd r (Clr.found x).toNat).frm.length fun (i:Nat)=>[iv ((fnd r (Clr.found x).toNat).frm.getD i 0)]]),(59,.vec 3 1 (clrNew r x).length fun (p:Nat)=>[iv ((clrNew r x).getD p 0)]),(58,.vec 37 2 (chLen r (Clr.machine x).toNat r.machines.length) fun (p:Nat)=>cSpan (chg (mach r (Clr.machine x).toNat) p))] 20400) (by kernel_rfl) ⟨tv,tv,tv,⟨(o17 hp h1 h5 x47 hx47 h58),(o18 hp h1 h5 x47 hx47 h58)⟩,tv,tv,tv,tv,tv⟩ ?_
      refine swp_cond (!decide ((fnd r (Clr.found x).toNat).frm.getD x47 0=Clr.not x)) (by kernel_rfl) (fun h59 => ?_) (fun h59 => ?_)
      ·refine sR (kt:=[2,3,5,6,8,7]) (kh:=[0,8,64,160,20456,56,57,59,58]) (q:=True/\True/\True/\True/\(0<=(x47:Int)/\(x47:Int) < (↑((fnd r (Clr.found x).toNat).frm.length):Int))/\True/\True/\(clrTo r x x47).length + 1<=65536/\True/\True) (st':=ASt.mk [(2,.ptr 0 []),(3,.ptr 8 []),(5,.ptr 64 []),(6,.ptr 160 []),(8,iv (x47:Int)),(7,.vec 20456)] [(0,.cells 25 (cRun r)),(8,.cells 68 (cClr x)),(64,.cells 25 [iv r.plates,iv r.last,.vec 56,.vec 57]),(160,.cells 32 [iv (fnd r (Clr.found x).toNat).minute,.vec 59,.sl 1 (fnd r (Clr.found x).toNat).frm.length fun (i:Nat)=>[iv ((fnd r (Clr.found x).toNat).frm.getD i 0)]]),(20456,.vec 3 1 ((clrTo r x x47).length + 1) (catF (clrTo r x x47).length (fun (k:Nat)=>[iv ((clrTo r x x47).getD k 0)]) fun (j:Nat)=>List.getD [[iv ((fnd r (Clr.found x).toNat).frm.getD x47 0)]] j (TI.za ti3))),(56,.vecx 42 2 r.machines.length (fun (k:Nat)=>cMach (mach r k)) (Clr.machine x).toNat [.vec 58,iv (mach r (Clr.machine x).toNat).rate]),(57,.vecx 32 3 r.found.length (fun (k:Nat)=>cFnd (fnd r k)) (Clr.found x).toNat [iv (fnd r (Clr.found x).toNat).minute,.vec 59,.sl 1 (fnd r (Clr.found x).toNat).frm.length fun (i:Nat)=>[iv ((fnd r (Clr.found x).toNat).frm.getD i 0)]]),(59,.vec 3 1 (clrNew r x).length fun (p:Nat)=>[iv ((clrNew r x).getD p 0)]),(58,.vec 37 2 (chLen r (Clr.machine x).toNat r.machines.length) fun (p:Nat)=>cSpan (chg (mach r (Clr.machine x).toNat) p))] 20472) (by kernel_rfl) ⟨tv,tv,tv,tv,⟨(o19 hp h1 h5 x47 hx47 h58 h59),(o20 hp h1 h5 x47 hx47 h58 h59)⟩,tv,tv,(o21 hp h1 h5 x47 hx47 h58 h59),tv,tv⟩ ?_
       refine sR (kt:=[2,3,5,6,8,7]) (kh:=[0,8,64,160,20456,56,57,59,58]) (q:=True/\inI ((x47:Int) + 1)/\True/\True) (st':=ASt.mk [(2,.ptr 0 []),(3,.ptr 8 []),(5,.ptr 64 []),(6,.ptr 160 []),(8,iv ((x47:Int) + 1)),(7,.vec 20456)] [(0,.cells 25 (cRun r)),(8,.cells 68 (cClr x)),(64,.cells 25 [iv r.plates,iv r.last,.vec 56,.vec 57]),(160,.cells 32 [iv (fnd r (Clr.found x).toNat).minute,.vec 59,.sl 1 (fnd r (Clr.found x).toNat).frm.length fun (i:Nat)=>[iv ((fnd r (Clr.found x).toNat).frm.getD i 0)]]),(20456,.vec 3 1 ((clrTo r x x47).length + 1) (catF (clrTo r x x47).length (fun (k:Nat)=>[iv ((clrTo r x x47).getD k 0)]) fun (j:Nat)=>List.getD [[iv ((fnd r (Clr.found x).toNat).frm.getD x47 0)]] j (TI.za ti3))),(56,.vecx 42 2 r.machines.length (fun (k:Nat)=>cMach (mach r k)) (Clr.machine x).toNat [.vec 58,iv (mach r (Clr.machine x).toNat).rate]),(57,.vecx 32 3 r.found.length (fun (k:Nat)=>cFnd (fnd r k)) (Clr.found x).toNat [iv (fnd r (Clr.found x).toNat).minute,.vec 59,.sl 1 (fnd r (Clr.found x).toNat).frm.length fun (i:Nat)=>[iv ((fnd r (Clr.found x).toNat).frm.getD i 0)]]),(59,.vec 3 1 (clrNew r x).length fun (p:Nat)=>[iv ((clrNew r x).getD p 0)]),(58,.vec 37 2 (chLen r (Clr.machine x).toNat r.machines.length) fun (p:Nat)=>cSpan (chg (mach r (Clr.machine x).toNat) p))] 20496) (by kernel_rfl) ⟨tv,(o22 hp h1 h5 x47 hx47 h58 h59),tv,tv⟩ ?_
       exact loop_next (Hint.ann (h10 r x) [(2,AV.ptr 0 []),(3,AV.ptr 8 []),(5,AV.ptr 64 []),(6,AV.ptr 160 [])] [(0,OB.cells 25 (cRun r)),(8,OB.cells 68 (cClr x)),(64,OB.cells 25 [iv r.plates,iv r.last,AV.vec 56,AV.vec 57]),(160,OB.cells 32 [iv (fnd r (Clr.found x).toNat).minute,AV.vec 59,AV.sl 1 (fnd r (Clr.found x).toNat).frm.length fun (i:Nat)=>[iv ((fnd r (Clr.found x).toNat).frm.getD i 0)]]),(56,OB.vecx 42 2 r.machines.length (fun (k:Nat)=>cMach (mach r k)) (Clr.machine x).toNat [AV.vec 58,iv (mach r (Clr.machine x).toNat).rate]),(57,OB.vecx 32 3 r.found.length (fun (k:Nat)=>cFnd (fnd r k)) (Clr.found x).toNat [iv (fnd r (Clr.found x).toNat).minute,AV.vec 59,AV.sl 1 (fnd r (Clr.found x).toNat).frm.length fun (i:Nat)=>[iv ((fnd r (Clr.found x).toNat).frm.getD i 0)]]),(59,OB.vec 3 1 (clrNew r x).length fun (p:Nat)=>[iv ((clrNew r x).getD p 0)]),(58,OB.vec 37 2 (chLen r (Clr.machine x).toNat r.machines.length) fun (p:Nat)=>cSpan (chg (mach r (Clr.machine x).toNat) p))] 20296) x47 (ent_q hE [] [(0,.same 0),(8,.same 8),(64,.same 64),(56,.same 56),(58,.same 58),(57,.same 57),(59,.same 59),(160,.same 160),(5000,.same 20456)] [] [0,8,59,58] (((some (Src.same 0)=some (Src.same 0)/\nilP = [])/\(some (Src.same 8)=some (Src.same 8)/\nilP = [])/\(some (Src.same 64)=some (Src.same 64)/\nilP = [])/\(some (Src.same 160)=some (Src.same 160)/\nilP = [])/\(iv ((x47:Int) + 1)=iv (↑(x47 + 1):Int)/\nilN = [])/\some (Src.same 20456)=some (Src.same 20456)/\True)/\((OB.cells 25 (cRun r)=OB.cells 25 (cRun r)/\true=true)/\(OB.cells 68 (cClr x)=OB.cells 68 (cClr x)/\true=true)/\(25=25/\((iv r.plates=iv r.plates/\nilN = [])/\(iv r.last=iv r.last/\nilN = [])/\some (Src.same 56)=some (Src.same 56)/\some (Src.same 57)=some (Src.same 57)/\True)/\true=true)/\(32=32/\((iv (fnd r (Clr.found x).toNat).minute=iv (fnd r (Clr.found x).toNat).minute/\nilN = [])/\some (Src.same 59)=some (Src.same 59)/\(1=1/\(fnd r (Clr.found x).toNat).frm.length=(fnd r (Clr.found x).toNat).frm.length /\ ∀ (i60:Nat),i60 < (fnd r (Clr.found x).toNat).frm.length -> [iv ((fnd r (Clr.found x).toNat).frm.getD i60 0)] = [iv ((fnd r (Clr.found x).toNat).frm.getD i60 0)])/\True)/\true=true)/\(42=42/\2=2/\r.machines.length=r.machines.length/\(Clr.machine x).toNat=(Clr.machine x).toNat/\(∀ (i62:Nat),i62 < r.machines.length->i62 ≠ (Clr.machine x).toNat->cMach (mach r i62)=cMach (mach r i62))/\(some (Src.same 58)=some (Src.same 58)/\(iv (mach r (Clr.machine x).toNat).rate=iv (mach r (Clr.machine x).toNat).rate/\nilN = [])/\True)/\true=true)/\(32=32/\3=3/\r.found.length=r.found.length/\(Clr.found x).toNat=(Clr.found x).toNat/\(∀ (i65:Nat),i65 < r.found.length->i65 ≠ (Clr.found x).toNat->cFnd (fnd r i65)=cFnd (fnd r i65))/\((iv (fnd r (Clr.found x).toNat).minute=iv (fnd r (Clr.found x).toNat).minute/\nilN = [])/\some (Src.same 59)=some (Src.same 59)/\(1=1/\(fnd r (Clr.found x).toNat).frm.length=(fnd r (Clr.found x).toNat).frm.length /\ ∀ (i68:Nat),i68 < (fnd r (Clr.found x).toNat).frm.length -> [iv ((fnd r (Clr.found x).toNat).frm.getD i68 0)] = [iv ((fnd r (Clr.found x).toNat).frm.getD i68 0)])/\True)/\true=true)/\(((OB.vec 3 1 (clrNew r x).length fun (p:Nat)=>[iv ((clrNew r x).getD p 0)])=OB.vec 3 1 (clrNew r x).length fun (p:Nat)=>[iv ((clrNew r x).getD p 0)])/\true=true)/\(((OB.vec 37 2 (chLen r (Clr.machine x).toNat r.machines.length) fun (p:Nat)=>cSpan (chg (mach r (Clr.machine x).toNat) p))=OB.vec 37 2 (chLen r (Clr.machine x).toNat r.machines.length) fun (p:Nat)=>cSpan (chg (mach r (Clr.machine x).toNat) p))/\true=true)/\(3=3/\1=1/\(clrTo r x x47).length + 1=(clrTo r x (x47 + 1)).length /\ ∀ (i70:Nat),i70 < (clrTo r x x47).length + 1->catF (clrTo r x x47).length (fun (k:Nat)=>[iv ((clrTo r x x47).getD k 0)]) (fun (j:Nat)=>List.getD [[iv ((fnd r (Clr.found x).toNat).frm.getD x47 0)]] j (TI.za ti3)) i70 = [iv ((clrTo r x (x47 + 1)).getD i70 0)])/\True)/\T2) (by kernel_rfl) (by kernel_rfl) ⟨⟨⟨rfl,rfl⟩,⟨rfl,rfl⟩,⟨rfl,rfl⟩,⟨rfl,rfl⟩,⟨(congrArg iv (o23 hp h1 h5 x47 hx47 h58 h59)),rfl⟩,rfl,tv⟩,⟨⟨rfl,rfl⟩,⟨rfl,rfl⟩,⟨rfl,⟨⟨rfl,rfl⟩,⟨rfl,rfl⟩,rfl,rfl,tv⟩,rfl⟩,⟨rfl,⟨⟨rfl,rfl⟩,rfl,⟨rfl,rfl,(fun i60=>(fun h61=>rfl))⟩,tv⟩,rfl⟩,⟨rfl,rfl,rfl,rfl,(fun i62=>(fun h63=>(fun h64=>rfl))),⟨rfl,⟨rfl,rfl⟩,tv⟩,rfl⟩,⟨rfl,rfl,rfl,rfl,(fun i65=>(fun h66=>(fun h67=>rfl))),⟨⟨rfl,rfl⟩,rfl,⟨rfl,rfl,(fun i68=>(fun h69=>rfl))⟩,tv⟩,rfl⟩,⟨rfl,rfl⟩,⟨rfl,rfl⟩,⟨rfl,rfl,(o24 hp h1 h5 x47 hx47 h58 h59),(fun i70=>(fun h71=>(o25 hp h1 h5 x47 hx47 h58 h59 i70 h71)))⟩,tv⟩,rfl,rfl⟩) (o26 hp h1 h5 x47 hx47 h58 h59) (o27 hp h1 h5 x47 hx47 h58 h59)
      ·refine swp_skip ?_
       refine sR (kt:=[2,3,5,6,8,7]) (kh:=[0,8,64,160,5000,56,57,59,58]) (q:=True/\inI ((x47:Int) + 1)/\True/\True) (st':=ASt.mk [(2,.ptr 0 []),(3,.ptr 8 []),(5,.ptr 64 []),(6,.ptr 160 []),(8,iv ((x47:Int) + 1)),(7,.vec 5000)] [(0,.cells 25 (cRun r)),(8,.cells 68 (cClr x)),(64,.cells 25 [iv r.plates,iv r.last,.vec 56,.vec 57]),(160,.cells 32 [iv (fnd r (Clr.found x).toNat).minute,.vec 59,.sl 1 (fnd r (Clr.found x).toNat).frm.length fun (i:Nat)=>[iv ((fnd r (Clr.found x).toNat).frm.getD i 0)]]),(5000,.vec 3 1 (clrTo r x x47).length fun (k:Nat)=>[iv ((clrTo r x x47).getD k 0)]),(56,.vecx 42 2 r.machines.length (fun (k:Nat)=>cMach (mach r k)) (Clr.machine x).toNat [.vec 58,iv (mach r (Clr.machine x).toNat).rate]),(57,.vecx 32 3 r.found.length (fun (k:Nat)=>cFnd (fnd r k)) (Clr.found x).toNat [iv (fnd r (Clr.found x).toNat).minute,.vec 59,.sl 1 (fnd r (Clr.found x).toNat).frm.length fun (i:Nat)=>[iv ((fnd r (Clr.found x).toNat).frm.getD i 0)]]),(59,.vec 3 1 (clrNew r x).length fun (p:Nat)=>[iv ((clrNew r x).getD p 0)]),(58,.vec 37 2 (chLen r (Clr.machine x).toNat r.machines.length) fun (p:Nat)=>cSpan (chg (mach r (Clr.machine x).toNat) p))] 20424) (by kernel_rfl) ⟨tv,(o28 hp h1 h5 x47 hx47 h58 h59),tv,tv⟩ ?_
       exact loop_next (Hint.ann (h10 r x) [(2,AV.ptr 0 []),(3,AV.ptr 8 []),(5,AV.ptr 64 []),(6,AV.ptr 160 [])] [(0,OB.cells 25 (cRun r)),(8,OB.cells 68 (cClr x)),(64,OB.cells 25 [iv r.plates,iv r.last,AV.vec 56,AV.vec 57]),(160,OB.cells 32 [iv (fnd r (Clr.found x).toNat).minute,AV.vec 59,AV.sl 1 (fnd r (Clr.found x).toNat).frm.length fun (i:Nat)=>[iv ((fnd r (Clr.found x).toNat).frm.getD i 0)]]),(56,OB.vecx 42 2 r.machines.length (fun (k:Nat)=>cMach (mach r k)) (Clr.machine x).toNat [AV.vec 58,iv (mach r (Clr.machine x).toNat).rate]),(57,OB.vecx 32 3 r.found.length (fun (k:Nat)=>cFnd (fnd r k)) (Clr.found x).toNat [iv (fnd r (Clr.found x).toNat).minute,AV.vec 59,AV.sl 1 (fnd r (Clr.found x).toNat).frm.length fun (i:Nat)=>[iv ((fnd r (Clr.found x).toNat).frm.getD i 0)]]),(59,OB.vec 3 1 (clrNew r x).length fun (p:Nat)=>[iv ((clrNew r x).getD p 0)]),(58,OB.vec 37 2 (chLen r (Clr.machine x).toNat r.machines.length) fun (p:Nat)=>cSpan (chg (mach r (Clr.machine x).toNat) p))] 20296) x47 (ent_q hE [] [(0,.same 0),(8,.same 8),(64,.same 64),(56,.same 56),(58,.same 58),(57,.same 57),(59,.same 59),(160,.same 160),(5000,.same 5000)] [] [0,8,59,58] (((some (Src.same 0)=some (Src.same 0)/\nilP = [])/\(some (Src.same 8)=some (Src.same 8)/\nilP = [])/\(some (Src.same 64)=some (Src.same 64)/\nilP = [])/\(some (Src.same 160)=some (Src.same 160)/\nilP = [])/\(iv ((x47:Int) + 1)=iv (↑(x47 + 1):Int)/\nilN = [])/\some (Src.same 5000)=some (Src.same 5000)/\True)/\((OB.cells 25 (cRun r)=OB.cells 25 (cRun r)/\true=true)/\(OB.cells 68 (cClr x)=OB.cells 68 (cClr x)/\true=true)/\(25=25/\((iv r.plates=iv r.plates/\nilN = [])/\(iv r.last=iv r.last/\nilN = [])/\some (Src.same 56)=some (Src.same 56)/\some (Src.same 57)=some (Src.same 57)/\True)/\true=true)/\(32=32/\((iv (fnd r (Clr.found x).toNat).minute=iv (fnd r (Clr.found x).toNat).minute/\nilN = [])/\some (Src.same 59)=some (Src.same 59)/\(1=1/\(fnd r (Clr.found x).toNat).frm.length=(fnd r (Clr.found x).toNat).frm.length /\ ∀ (i72:Nat),i72 < (fnd r (Clr.found x).toNat).frm.length -> [iv ((fnd r (Clr.found x).toNat).frm.getD i72 0)] = [iv ((fnd r (Clr.found x).toNat).frm.getD i72 0)])/\True)/\true=true)/\(42=42/\2=2/\r.machines.length=r.machines.length/\(Clr.machine x).toNat=(Clr.machine x).toNat/\(∀ (i74:Nat),i74 < r.machines.length->i74 ≠ (Clr.machine x).toNat->cMach (mach r i74)=cMach (mach r i74))/\(some (Src.same 58)=some (Src.same 58)/\(iv (mach r (Clr.machine x).toNat).rate=iv (mach r (Clr.machine x).toNat).rate/\nilN = [])/\True)/\true=true)/\(32=32/\3=3/\r.found.length=r.found.length/\(Clr.found x).toNat=(Clr.found x).toNat/\(∀ (i77:Nat),i77 < r.found.length->i77 ≠ (Clr.found x).toNat->cFnd (fnd r i77)=cFnd (fnd r i77))/\((iv (fnd r (Clr.found x).toNat).minute=iv (fnd r (Clr.found x).toNat).minute/\nilN = [])/\some (Src.same 59)=some (Src.same 59)/\(1=1/\(fnd r (Clr.found x).toNat).frm.length=(fnd r (Clr.found x).toNat).frm.length /\ ∀ (i80:Nat),i80 < (fnd r (Clr.found x).toNat).frm.length -> [iv ((fnd r (Clr.found x).toNat).frm.getD i80 0)] = [iv ((fnd r (Clr.found x).toNat).frm.getD i80 0)])/\True)/\true=true)/\(((OB.vec 3 1 (clrNew r x).length fun (p:Nat)=>[iv ((clrNew r x).getD p 0)])=OB.vec 3 1 (clrNew r x).length fun (p:Nat)=>[iv ((clrNew r x).getD p 0)])/\true=true)/\(((OB.vec 37 2 (chLen r (Clr.machine x).toNat r.machines.length) fun (p:Nat)=>cSpan (chg (mach r (Clr.machine x).toNat) p))=OB.vec 37 2 (chLen r (Clr.machine x).toNat r.machines.length) fun (p:Nat)=>cSpan (chg (mach r (Clr.machine x).toNat) p))/\true=true)/\(3=3/\1=1/\(clrTo r x x47).length=(clrTo r x (x47 + 1)).length /\ ∀ (i82:Nat),i82 < (clrTo r x x47).length -> [iv ((clrTo r x x47).getD i82 0)] = [iv ((clrTo r x (x47 + 1)).getD i82 0)])/\True)/\T2) (by kernel_rfl) (by kernel_rfl) ⟨⟨⟨rfl,rfl⟩,⟨rfl,rfl⟩,⟨rfl,rfl⟩,⟨rfl,rfl⟩,⟨(congrArg iv (o29 hp h1 h5 x47 hx47 h58 h59)),rfl⟩,rfl,tv⟩,⟨⟨rfl,rfl⟩,⟨rfl,rfl⟩,⟨rfl,⟨⟨rfl,rfl⟩,⟨rfl,rfl⟩,rfl,rfl,tv⟩,rfl⟩,⟨rfl,⟨⟨rfl,rfl⟩,rfl,⟨rfl,rfl,(fun i72=>(fun h73=>rfl))⟩,tv⟩,rfl⟩,⟨rfl,rfl,rfl,rfl,(fun i74=>(fun h75=>(fun h76=>rfl))),⟨rfl,⟨rfl,rfl⟩,tv⟩,rfl⟩,⟨rfl,rfl,rfl,rfl,(fun i77=>(fun h78=>(fun h79=>rfl))),⟨⟨rfl,rfl⟩,rfl,⟨rfl,rfl,(fun i80=>(fun h81=>rfl))⟩,tv⟩,rfl⟩,⟨rfl,rfl⟩,⟨rfl,rfl⟩,⟨rfl,rfl,(o30 hp h1 h5 x47 hx47 h58 h59),(fun i82=>(fun h83=>(o31 hp h1 h5 x47 hx47 h58 h59 i82 h83)))⟩,tv⟩,rfl,rfl⟩) (o32 hp h1 h5 x47 hx47 h58 h59) (o33 hp h1 h5 x47 hx47 h58 h59)
     ·refine swp_exit (swp_seq ?_)
      refine sR (kt:=[2,3,5,6]) (kh:=[0,8,64,160,59,5000,56,57,58]) (q:=True/\True/\True/\True) (st':=ASt.mk [(2,.ptr 0 []),(3,.ptr 8 []),(5,.ptr 64 []),(6,.ptr 160 [])] [(0,.cells 25 (cRun r)),(8,.cells 68 (cClr x)),(64,.cells 25 [iv r.plates,iv r.last,.vec 56,.vec 57]),(160,.cells 32 [iv (fnd r (Clr.found x).toNat).minute,.vec 59,.vec 5000]),(59,.vec 3 1 (clrNew r x).length fun (p:Nat)=>[iv ((clrNew r x).getD p 0)]),(5000,.vec 3 1 (clrTo r x x47).length fun (k:Nat)=>[iv ((clrTo r x x47).getD k 0)]),(56,.vecx 42 2 r.machines.length (fun (k:Nat)=>cMach (mach r k)) (Clr.machine x).toNat [.vec 58,iv (mach r (Clr.machine x).toNat).rate]),(57,.vecx 32 3 r.found.length (fun (k:Nat)=>cFnd (fnd r k)) (Clr.found x).toNat [iv (fnd r (Clr.found x).toNat).minute,.vec 59,.sl 1 (fnd r (Clr.found x).toNat).frm.length fun (i:Nat)=>[iv ((fnd r (Clr.found x).toNat).frm.getD i 0)]]),(58,.vec 37 2 (chLen r (Clr.machine x).toNat r.machines.length) fun (p:Nat)=>cSpan (chg (mach r (Clr.machine x).toNat) p))] 20360) (by kernel_rfl) ⟨tv,tv,tv,tv⟩ ?_
      refine sR (kt:=[2,3,5]) (kh:=[0,8,64,56,57,59,5000,58]) (q:=True/\True/\True/\True/\True/\(0<=Clr.found x/\Clr.found x < (↑(r.found.length):Int))/\((Clr.found x).toNat=(Clr.found x).toNat/\(Clr.found x).toNat < r.found.length/\True)/\True) (st':=ASt.mk [(2,.ptr 0 []),(3,.ptr 8 []),(5,.ptr 64 [])] [(0,.cells 25 (cRun r)),(8,.cells 68 (cClr x)),(64,.cells 25 [iv r.plates,iv r.last,.vec 56,.vec 57]),(56,.vecx 42 2 r.machines.length (fun (k:Nat)=>cMach (mach r k)) (Clr.machine x).toNat [.vec 58,iv (mach r (Clr.machine x).toNat).rate]),(57,.vecx 32 3 r.found.length (fun (k:Nat)=>cFnd (fnd r k)) (Clr.found x).toNat [iv (fnd r (Clr.found x).toNat).minute,.vec 59,.vec 5000]),(59,.vec 3 1 (clrNew r x).length fun (p:Nat)=>[iv ((clrNew r x).getD p 0)]),(5000,.vec 3 1 (clrTo r x x47).length fun (k:Nat)=>[iv ((clrTo r x x47).getD k 0)]),(58,.vec 37 2 (chLen r (Clr.machine x).toNat r.machines.length) fun (p:Nat)=>cSpan (chg (mach r (Clr.machine x).toNat) p))] 20416) (by kernel_rfl) ⟨tv,tv,tv,tv,tv,⟨(o34 hp h1 h5 x47 hx47 h58),(o35 hp h1 h5 x47 hx47 h58)⟩,⟨rfl,(o36 hp h1 h5 x47 hx47 h58),tv⟩,tv⟩ ?_
      exact join_end (ent_q hE [59,5000] [(0,.same 0),(8,.same 8),(64,.same 64),(56,.same 56),(58,.same 58),(57,.same 57)] [] [0,8,58] (((some (Src.same 0)=some (Src.same 0)/\nilP = [])/\(some (Src.same 8)=some (Src.same 8)/\nilP = [])/\(some (Src.same 64)=some (Src.same 64)/\nilP = [])/\True)/\((32=32/\3=3/\r.found.length=r.found.length/\(∀ (i84:Nat),i84 < r.found.length->i84 ≠ (Clr.found x).toNat->cFnd (fnd r i84)=cFnd (fnd (clr1 r x) i84))/\((iv (fnd r (Clr.found x).toNat).minute=iv (fnd (clr1 r x) (Clr.found x).toNat).minute/\nilN = [])/\(1=1/\(clrNew r x).length=(fnd (clr1 r x) (Clr.found x).toNat).new.length /\ ∀ (i87:Nat),i87 < (fnd (clr1 r x) (Clr.found x).toNat).new.length -> [iv ((clrNew r x).getD i87 0)] = [iv ((fnd (clr1 r x) (Clr.found x).toNat).new.getD i87 0)])/\(1=1/\(clrTo r x x47).length=(fnd (clr1 r x) (Clr.found x).toNat).frm.length /\ ∀ (i89:Nat),i89 < (fnd (clr1 r x) (Clr.found x).toNat).frm.length -> [iv ((clrTo r x x47).getD i89 0)] = [iv ((fnd (clr1 r x) (Clr.found x).toNat).frm.getD i89 0)])/\True)/\T2)/\(OB.cells 25 (cRun r)=OB.cells 25 (cRun r)/\true=true)/\(OB.cells 68 (cClr x)=OB.cells 68 (cClr x)/\true=true)/\(25=25/\((iv r.plates=iv r.plates/\nilN = [])/\(iv r.last=iv r.last/\nilN = [])/\some (Src.same 56)=some (Src.same 56)/\some (Src.same 57)=some (Src.same 57)/\True)/\true=true)/\(42=42/\2=2/\r.machines.length=r.machines.length/\(Clr.machine x).toNat=(Clr.machine x).toNat/\(∀ (i91:Nat),i91 < r.machines.length->i91 ≠ (Clr.machine x).toNat->cMach (mach r i91)=cMach (mach r i91))/\(some (Src.same 58)=some (Src.same 58)/\(iv (mach r (Clr.machine x).toNat).rate=iv (mach r (Clr.machine x).toNat).rate/\nilN = [])/\True)/\true=true)/\(((OB.vec 37 2 (chLen r (Clr.machine x).toNat r.machines.length) fun (p:Nat)=>cSpan (chg (mach r (Clr.machine x).toNat) p))=OB.vec 37 2 (chLen r (Clr.machine x).toNat r.machines.length) fun (p:Nat)=>cSpan (chg (mach r (Clr.machine x).toNat) p))/\true=true)/\True)/\T2) (by kernel_rfl) (by kernel_rfl) ⟨⟨⟨rfl,rfl⟩,⟨rfl,rfl⟩,⟨rfl,rfl⟩,tv⟩,⟨⟨rfl,rfl,rfl,(fun i84=>(fun h85=>(fun h86=>(o37 hp h1 h5 x47 hx47 h58 i84 h85 h86)))),⟨⟨(congrArg iv (o38 hp h1 h5 x47 hx47 h58)),rfl⟩,⟨rfl,(o39 hp h1 h5 x47 hx47 h58),(fun i87=>(fun h88=>(o40 hp h1 h5 x47 hx47 h58 i87 h88)))⟩,⟨rfl,(o41 hp h1 h5 x47 hx47 h58),(fun i89=>(fun h90=>(o42 hp h1 h5 x47 hx47 h58 i89 h90)))⟩,tv⟩,rfl,rfl⟩,⟨rfl,rfl⟩,⟨rfl,rfl⟩,⟨rfl,⟨⟨rfl,rfl⟩,⟨rfl,rfl⟩,rfl,rfl,tv⟩,rfl⟩,⟨rfl,rfl,rfl,rfl,(fun i91=>(fun h92=>(fun h93=>rfl))),⟨rfl,⟨rfl,rfl⟩,tv⟩,rfl⟩,⟨rfl,rfl⟩,tv⟩,rfl,rfl⟩)
    ·refine swp_cond (bif isPlate r (Clr.plate x) then decide ((fnd r (Clr.found x).toNat).new.getD (Clr.plate x).toNat 0 = -1) else false) (by kernel_rfl) (fun h22 => ?_) (fun h22 => ?_)
     ·refine sR (kt:=[2,3,5,6]) (kh:=[0,8,64,160,56,57,59,58]) (q:=True/\True/\True/\True/\True/\True/\(0<=Clr.plate x/\Clr.plate x < (↑(nwLen r (Clr.found x).toNat r.found.length):Int))/\((Clr.plate x).toNat < nwLen r (Clr.found x).toNat r.found.length/\True)/\True) (st':=ASt.mk [(2,.ptr 0 []),(3,.ptr 8 []),(5,.ptr 64 []),(6,.ptr 160 [])] [(0,.cells 25 (cRun r)),(8,.cells 68 (cClr x)),(64,.cells 25 [iv r.plates,iv r.last,.vec 56,.vec 57]),(160,.cells 32 [iv (fnd r (Clr.found x).toNat).minute,.vec 59,.sl 1 (fnd r (Clr.found x).toNat).frm.length fun (i:Nat)=>[iv ((fnd r (Clr.found x).toNat).frm.getD i 0)]]),(56,.vecx 42 2 r.machines.length (fun (k:Nat)=>cMach (mach r k)) (Clr.machine x).toNat [.vec 58,iv (mach r (Clr.machine x).toNat).rate]),(57,.vecx 32 3 r.found.length (fun (k:Nat)=>cFnd (fnd r k)) (Clr.found x).toNat [iv (fnd r (Clr.found x).toNat).minute,.vec 59,.sl 1 (fnd r (Clr.found x).toNat).frm.length fun (i:Nat)=>[iv ((fnd r (Clr.found x).toNat).frm.getD i 0)]]),(59,.vec 3 1 (nwLen r (Clr.found x).toNat r.found.length) fun (j:Nat)=>Decidable.rec (fun (h:¬j=(Clr.plate x).toNat)=>[iv ((fnd r (Clr.found x).toNat).new.getD j 0)]) (fun (h:j=(Clr.plate x).toNat)=>[iv (Clr.new x)] ++ []) (instDecidableEqNat j (Clr.plate x).toNat)),(58,.vec 37 2 (chLen r (Clr.machine x).toNat r.machines.length) fun (p:Nat)=>cSpan (chg (mach r (Clr.machine x).toNat) p))] 344) (by kernel_rfl) ⟨tv,tv,tv,tv,tv,tv,⟨(o7 hp h1 h5 h22),(o8 hp h1 h5 h22)⟩,⟨(o9 hp h1 h5 h22),tv⟩,tv⟩ ?_
      exact join_end (ent_q hE [] [(0,.same 0),(8,.same 8),(64,.same 64),(56,.same 56),(58,.same 58),(57,.same 57),(59,.same 59),(160,.same 160)] [] [0,8,58] (((some (Src.same 0)=some (Src.same 0)/\nilP = [])/\(some (Src.same 8)=some (Src.same 8)/\nilP = [])/\(some (Src.same 64)=some (Src.same 64)/\nilP = [])/\(some (Src.same 160)=some (Src.same 160)/\nilP = [])/\True)/\((3=3/\1=1/\nwLen r (Clr.found x).toNat r.found.length=(clrNew r x).length /\ ∀ (i23:Nat),i23 < nwLen r (Clr.found x).toNat r.found.length->Decidable.rec (fun (h:¬i23=(Clr.plate x).toNat)=>[iv ((fnd r (Clr.found x).toNat).new.getD i23 0)]) (fun (h:i23=(Clr.plate x).toNat)=>[iv (Clr.new x)] ++ []) (instDecidableEqNat i23 (Clr.plate x).toNat) = [iv ((clrNew r x).getD i23 0)])/\(OB.cells 25 (cRun r)=OB.cells 25 (cRun r)/\true=true)/\(OB.cells 68 (cClr x)=OB.cells 68 (cClr x)/\true=true)/\(25=25/\((iv r.plates=iv r.plates/\nilN = [])/\(iv r.last=iv r.last/\nilN = [])/\some (Src.same 56)=some (Src.same 56)/\some (Src.same 57)=some (Src.same 57)/\True)/\true=true)/\(32=32/\((iv (fnd r (Clr.found x).toNat).minute=iv (fnd r (Clr.found x).toNat).minute/\nilN = [])/\some (Src.same 59)=some (Src.same 59)/\(1=1/\(fnd r (Clr.found x).toNat).frm.length=(fnd r (Clr.found x).toNat).frm.length /\ ∀ (i25:Nat),i25 < (fnd r (Clr.found x).toNat).frm.length -> [iv ((fnd r (Clr.found x).toNat).frm.getD i25 0)] = [iv ((fnd r (Clr.found x).toNat).frm.getD i25 0)])/\True)/\true=true)/\(42=42/\2=2/\r.machines.length=r.machines.length/\(Clr.machine x).toNat=(Clr.machine x).toNat/\(∀ (i27:Nat),i27 < r.machines.length->i27 ≠ (Clr.machine x).toNat->cMach (mach r i27)=cMach (mach r i27))/\(some (Src.same 58)=some (Src.same 58)/\(iv (mach r (Clr.machine x).toNat).rate=iv (mach r (Clr.machine x).toNat).rate/\nilN = [])/\True)/\true=true)/\(32=32/\3=3/\r.found.length=r.found.length/\(Clr.found x).toNat=(Clr.found x).toNat/\(∀ (i30:Nat),i30 < r.found.length->i30 ≠ (Clr.found x).toNat->cFnd (fnd r i30)=cFnd (fnd r i30))/\((iv (fnd r (Clr.found x).toNat).minute=iv (fnd r (Clr.found x).toNat).minute/\nilN = [])/\some (Src.same 59)=some (Src.same 59)/\(1=1/\(fnd r (Clr.found x).toNat).frm.length=(fnd r (Clr.found x).toNat).frm.length /\ ∀ (i33:Nat),i33 < (fnd r (Clr.found x).toNat).frm.length -> [iv ((fnd r (Clr.found x).toNat).frm.getD i33 0)] = [iv ((fnd r (Clr.found x).toNat).frm.getD i33 0)])/\True)/\true=true)/\(((OB.vec 37 2 (chLen r (Clr.machine x).toNat r.machines.length) fun (p:Nat)=>cSpan (chg (mach r (Clr.machine x).toNat) p))=OB.vec 37 2 (chLen r (Clr.machine x).toNat r.machines.length) fun (p:Nat)=>cSpan (chg (mach r (Clr.machine x).toNat) p))/\true=true)/\True)/\T2) (by kernel_rfl) (by kernel_rfl) ⟨⟨⟨rfl,rfl⟩,⟨rfl,rfl⟩,⟨rfl,rfl⟩,⟨rfl,rfl⟩,tv⟩,⟨⟨rfl,rfl,(o10 hp h1 h5 h22),(fun i23=>(fun h24=>(o11 hp h1 h5 h22 i23 h24)))⟩,⟨rfl,rfl⟩,⟨rfl,rfl⟩,⟨rfl,⟨⟨rfl,rfl⟩,⟨rfl,rfl⟩,rfl,rfl,tv⟩,rfl⟩,⟨rfl,⟨⟨rfl,rfl⟩,rfl,⟨rfl,rfl,(fun i25=>(fun h26=>rfl))⟩,tv⟩,rfl⟩,⟨rfl,rfl,rfl,rfl,(fun i27=>(fun h28=>(fun h29=>rfl))),⟨rfl,⟨rfl,rfl⟩,tv⟩,rfl⟩,⟨rfl,rfl,rfl,rfl,(fun i30=>(fun h31=>(fun h32=>rfl))),⟨⟨rfl,rfl⟩,rfl,⟨rfl,rfl,(fun i33=>(fun h34=>rfl))⟩,tv⟩,rfl⟩,⟨rfl,rfl⟩,tv⟩,rfl,rfl⟩)
     ·refine swp_skip ?_
      exact join_end (ent_q hE [] [(0,.same 0),(8,.same 8),(64,.same 64),(56,.same 56),(58,.same 58),(57,.same 57),(59,.same 59),(160,.same 160)] [] [0,8,58] (((some (Src.same 0)=some (Src.same 0)/\nilP = [])/\(some (Src.same 8)=some (Src.same 8)/\nilP = [])/\(some (Src.same 64)=some (Src.same 64)/\nilP = [])/\(some (Src.same 160)=some (Src.same 160)/\nilP = [])/\True)/\((3=3/\1=1/\nwLen r (Clr.found x).toNat r.found.length=(clrNew r x).length /\ ∀ (i35:Nat),i35 < nwLen r (Clr.found x).toNat r.found.length -> [iv ((fnd r (Clr.found x).toNat).new.getD i35 0)] = [iv ((clrNew r x).getD i35 0)])/\(OB.cells 25 (cRun r)=OB.cells 25 (cRun r)/\true=true)/\(OB.cells 68 (cClr x)=OB.cells 68 (cClr x)/\true=true)/\(25=25/\((iv r.plates=iv r.plates/\nilN = [])/\(iv r.last=iv r.last/\nilN = [])/\some (Src.same 56)=some (Src.same 56)/\some (Src.same 57)=some (Src.same 57)/\True)/\true=true)/\(32=32/\((iv (fnd r (Clr.found x).toNat).minute=iv (fnd r (Clr.found x).toNat).minute/\nilN = [])/\some (Src.same 59)=some (Src.same 59)/\(1=1/\(fnd r (Clr.found x).toNat).frm.length=(fnd r (Clr.found x).toNat).frm.length /\ ∀ (i37:Nat),i37 < (fnd r (Clr.found x).toNat).frm.length -> [iv ((fnd r (Clr.found x).toNat).frm.getD i37 0)] = [iv ((fnd r (Clr.found x).toNat).frm.getD i37 0)])/\True)/\true=true)/\(42=42/\2=2/\r.machines.length=r.machines.length/\(Clr.machine x).toNat=(Clr.machine x).toNat/\(∀ (i39:Nat),i39 < r.machines.length->i39 ≠ (Clr.machine x).toNat->cMach (mach r i39)=cMach (mach r i39))/\(some (Src.same 58)=some (Src.same 58)/\(iv (mach r (Clr.machine x).toNat).rate=iv (mach r (Clr.machine x).toNat).rate/\nilN = [])/\True)/\true=true)/\(32=32/\3=3/\r.found.length=r.found.length/\(Clr.found x).toNat=(Clr.found x).toNat/\(∀ (i42:Nat),i42 < r.found.length->i42 ≠ (Clr.found x).toNat->cFnd (fnd r i42)=cFnd (fnd r i42))/\((iv (fnd r (Clr.found x).toNat).minute=iv (fnd r (Clr.found x).toNat).minute/\nilN = [])/\some (Src.same 59)=some (Src.same 59)/\(1=1/\(fnd r (Clr.found x).toNat).frm.length=(fnd r (Clr.found x).toNat).frm.length /\ ∀ (i45:Nat),i45 < (fnd r (Clr.found x).toNat).frm.length -> [iv ((fnd r (Clr.found x).toNat).frm.getD i45 0)] = [iv ((fnd r (Clr.found x).toNat).frm.getD i45 0)])/\True)/\true=true)/\(((OB.vec 37 2 (chLen r (Clr.machine x).toNat r.machines.length) fun (p:Nat)=>cSpan (chg (mach r (Clr.machine x).toNat) p))=OB.vec 37 2 (chLen r (Clr.machine x).toNat r.machines.length) fun (p:Nat)=>cSpan (chg (mach r (Clr.machine x).toNat) p))/\true=true)/\True)/\T2) (by kernel_rfl) (by kernel_rfl) ⟨⟨⟨rfl,rfl⟩,⟨rfl,rfl⟩,⟨rfl,rfl⟩,⟨rfl,rfl⟩,tv⟩,⟨⟨rfl,rfl,(o12 hp h1 h5 h22),(fun i35=>(fun h36=>(o13 hp h1 h5 h22 i35 h36)))⟩,⟨rfl,rfl⟩,⟨rfl,rfl⟩,⟨rfl,⟨⟨rfl,rfl⟩,⟨rfl,rfl⟩,rfl,rfl,tv⟩,rfl⟩,⟨rfl,⟨⟨rfl,rfl⟩,rfl,⟨rfl,rfl,(fun i37=>(fun h38=>rfl))⟩,tv⟩,rfl⟩,⟨rfl,rfl,rfl,rfl,(fun i39=>(fun h40=>(fun h41=>rfl))),⟨rfl,⟨rfl,rfl⟩,tv⟩,rfl⟩,⟨rfl,rfl,rfl,rfl,(fun i42=>(fun h43=>(fun h44=>rfl))),⟨⟨rfl,rfl⟩,rfl,⟨rfl,rfl,(fun i45=>(fun h46=>rfl))⟩,tv⟩,rfl⟩,⟨rfl,rfl⟩,tv⟩,rfl,rfl⟩)
   ·refine swp_skip ?_
    exact join_end (ent_q hE [59] [(0,.same 0),(8,.same 8),(64,.same 64),(56,.same 56),(58,.same 58),(57,.same 57)] [] [0,8,58] (((some (Src.same 0)=some (Src.same 0)/\nilP = [])/\(some (Src.same 8)=some (Src.same 8)/\nilP = [])/\(some (Src.same 64)=some (Src.same 64)/\nilP = [])/\True)/\((32=32/\3=3/\r.found.length=r.found.length/\(∀ (i94:Nat),i94 < r.found.length->i94 ≠ (Clr.found x).toNat->cFnd (fnd r i94)=cFnd (fnd (clr1 r x) i94))/\((iv (fnd r (Clr.found x).toNat).minute=iv (fnd (clr1 r x) (Clr.found x).toNat).minute/\nilN = [])/\(1=1/\nwLen r (Clr.found x).toNat r.found.length=(fnd (clr1 r x) (Clr.found x).toNat).new.length /\ ∀ (i97:Nat),i97 < (fnd (clr1 r x) (Clr.found x).toNat).new.length -> [iv ((fnd r (Clr.found x).toNat).new.getD i97 0)] = [iv ((fnd (clr1 r x) (Clr.found x).toNat).new.getD i97 0)])/\(1=1/\(fnd r (Clr.found x).toNat).frm.length=(fnd (clr1 r x) (Clr.found x).toNat).frm.length /\ ∀ (i99:Nat),i99 < (fnd (clr1 r x) (Clr.found x).toNat).frm.length -> [iv ((fnd r (Clr.found x).toNat).frm.getD i99 0)] = [iv ((fnd (clr1 r x) (Clr.found x).toNat).frm.getD i99 0)])/\True)/\T2)/\(OB.cells 25 (cRun r)=OB.cells 25 (cRun r)/\true=true)/\(OB.cells 68 (cClr x)=OB.cells 68 (cClr x)/\true=true)/\(25=25/\((iv r.plates=iv r.plates/\nilN = [])/\(iv r.last=iv r.last/\nilN = [])/\some (Src.same 56)=some (Src.same 56)/\some (Src.same 57)=some (Src.same 57)/\True)/\true=true)/\(42=42/\2=2/\r.machines.length=r.machines.length/\(Clr.machine x).toNat=(Clr.machine x).toNat/\(∀ (i101:Nat),i101 < r.machines.length->i101 ≠ (Clr.machine x).toNat->cMach (mach r i101)=cMach (mach r i101))/\(some (Src.same 58)=some (Src.same 58)/\(iv (mach r (Clr.machine x).toNat).rate=iv (mach r (Clr.machine x).toNat).rate/\nilN = [])/\True)/\true=true)/\(((OB.vec 37 2 (chLen r (Clr.machine x).toNat r.machines.length) fun (p:Nat)=>cSpan (chg (mach r (Clr.machine x).toNat) p))=OB.vec 37 2 (chLen r (Clr.machine x).toNat r.machines.length) fun (p:Nat)=>cSpan (chg (mach r (Clr.machine x).toNat) p))/\true=true)/\True)/\T2) (by kernel_rfl) (by kernel_rfl) ⟨⟨⟨rfl,rfl⟩,⟨rfl,rfl⟩,⟨rfl,rfl⟩,tv⟩,⟨⟨rfl,rfl,rfl,(fun i94=>(fun h95=>(fun h96=>(o43 hp h1 h5 i94 h95 h96)))),⟨⟨(congrArg iv (o44 hp h1 h5)),rfl⟩,⟨rfl,(o45 hp h1 h5),(fun i97=>(fun h98=>(o46 hp h1 h5 i97 h98)))⟩,⟨rfl,(o47 hp h1 h5),(fun i99=>(fun h100=>(o48 hp h1 h5 i99 h100)))⟩,tv⟩,rfl,rfl⟩,⟨rfl,rfl⟩,⟨rfl,rfl⟩,⟨rfl,⟨⟨rfl,rfl⟩,⟨rfl,rfl⟩,rfl,rfl,tv⟩,rfl⟩,⟨rfl,rfl,rfl,rfl,(fun i101=>(fun h102=>(fun h103=>rfl))),⟨rfl,⟨rfl,rfl⟩,tv⟩,rfl⟩,⟨rfl,rfl⟩,tv⟩,rfl,rfl⟩)
theorem t10 (r:Run) (x:Clr):Triple Try.prog 10 (s10 r x):=by
 apply w10
 all_goals (first | ((repeat intro _) <;> (try simp only [v0,v1,v2,v3,v4,v5,v6,v7,v8,v9,inI,fits,Go.Sh.small] at *) <;> first | (exact rfl) | omega | exact vz | (simp_all; done) | (simp_all; omega)) | skip)
 all_goals (intro hfit hk; obtain ⟨k1,k2,k3⟩:=known_ok hk; have ok:=k3.ok)
 case o0=>exact small_known k1 hfit
 case o1 | o2 | o3=>intro h; have:=isFound_iff.1 h; omega
 case o4=>intro h hp; exact (clr_pl ok h hp).1
 case o5 | o6=>intro h hp; have:=clr_pl ok h hp; rw [nwLen_any]; omega
 case o7=>intro h hp; exact (clr_pl ok h (and_t hp).1).1
 case o8 | o9=>intro h hp; have:=clr_pl ok h (and_t hp).1; rw [nwLen_any]; omega
 case o10 | o12=>intro h _; rw [nwLen_any,clrNew_len]
 case o11 =>
  intro h hp i hi
  obtain ⟨p1,p2⟩:=and_t hp
  have hl:=clr_pl ok h p1
  have hset:clrNew r x=(fnd r x.found.toNat).new.set x.plate.toNat x.new:=by unfold clrNew; rw [if_pos p1,if_pos (of_decide_eq_true p2)]
  rw [hset,getD_set _ _ _ (by omega)]
  exact rec_eq (fun h=>by rw [if_neg h]) (fun h=>by rw [if_pos h]; rfl)
 case o13 =>
  intro h hp i hi
  have hset:clrNew r x=(fnd r x.found.toNat).new:=by
   unfold clrNew
   by_cases c:isPlate r x.plate=true
   ·rw [if_pos c,if_neg]
    intro e
    rw [c,decide_eq_true e] at hp
    cases hp
   ·rw [if_neg c]
  rw [hset]
 case o21=>intro h i hi hl _; have:=clrTo_len r x i; have h1:=isFound_iff.1 h; have:=frm_len ok (i:=x.found.toNat) (by omega); omega
 case o22=>intro h i hi hl _; have h1:=isFound_iff.1 h; have:=frm_len ok (i:=x.found.toNat) (by omega); exact ⟨by omega,by omega⟩
 case o24 =>
  intro h i hi hl hn
  simp only [decide_eq_true_eq] at hl
  rw [clrTo_t (by omega) (by simpa using hn),List.length_append]; rfl
 case o25 =>
  intro h i hi hl hn j hj
  simp only [decide_eq_true_eq] at hl
  rw [clrTo_t (by omega) (by simpa using hn)]
  exact catF_one (clrTo r x i) ((fnd r x.found.toNat).frm.getD i 0) 0 (fun z=>[iv z]) rfl (fun _ _=>rfl) rfl hj
 case o28=>intro h i hi hl _; have h1:=isFound_iff.1 h; have:=frm_len ok (i:=x.found.toNat) (by omega); exact ⟨by omega,by omega⟩
 case o30 =>
  intro h i hi hl hn
  simp only [decide_eq_true_eq] at hl
  rw [clrTo_f (by omega) (by simpa using hn)]
 case o31 =>
  intro h i hi hl hn j hj
  simp only [decide_eq_true_eq] at hl
  rw [clrTo_f (by omega) (by simpa using hn)]
 case o34 | o35 | o36=>intro h _ _ _; have:=isFound_iff.1 h; omega
 case o37=>intro h _ _ _ i _ hne; rw [fnd_clr1 x h,if_neg hne]
 case o38=>intro h _ _ _; rw [fnd_clr1 x h,if_pos rfl]; rfl
 case o39=>intro h _ _ _; rw [fnd_clr1 x h,if_pos rfl]; rfl
 case o40=>intro h _ _ _ i _; rw [fnd_clr1 x h,if_pos rfl]; rfl
 case o41 =>
  intro h y hy hl
  simp only [decide_eq_false_iff_not] at hl
  rw [fnd_clr1 x h,if_pos rfl,show y=(fnd r x.found.toNat).frm.length by omega]; rfl
 case o42 =>
  intro h y hy hl i _
  simp only [decide_eq_false_iff_not] at hl
  rw [fnd_clr1 x h,if_pos rfl,show y=(fnd r x.found.toNat).frm.length by omega]; rfl
 case o43=>intro h i _ _; rw [fnd_clr1_no x h]
 case o44=>intro h; rw [fnd_clr1_no x h]
 case o45=>intro h; rw [fnd_clr1_no x h,nwLen_any]
 case o46=>intro h i _; rw [fnd_clr1_no x h]
 case o47=>intro h; rw [fnd_clr1_no x h]
 case o48=>intro h i _; rw [fnd_clr1_no x h]
 case o49=>intro h; exact (clr_ch ok (and_t h).1 (and_t h).2).1.1
 case o50=>intro h; exact (clr_ch ok (and_t h).1 (and_t h).2).1.2
 case o51=>intro h; exact (clr_ch ok (and_t h).1 (and_t h).2).2.1
 case o52=>intro h; exact (clr_ch ok (and_t h).1 (and_t h).2).2.2
 case o53 | o54 | o55 | o56=>intro h; have h1:=and_t (and_t h).1; have:=clr_ch ok h1.1 h1.2; omega
 case o57 | o58=>intro h; have h1:=and_t (and_t h).1; have:=clr_ch ok h1.1 h1.2; rw [chLen_any]; omega
 case o59 =>
  intro h i _ hne
  rw [clr_is] at h
  have:=(clrIs_iff ok h).1
  rw [clrR,if_pos h,setCh,mach_setM _ (by rw [(clr1_mach r x).1]; omega),if_neg hne,mach_clr1]
 case o60 | o64=>intro h; rw [chLen_any,clr_mlen ok]
 case o61 =>
  intro h i hi
  have h1:=and_t (and_t h).1
  have h2:=clr_ch ok h1.1 h1.2
  rw [clr_is] at h
  have hc:=chg_setCh (r:=clr1 r x) (m:=x.machine.toNat) (p:=x.change.toNat) (s:=x.span) (by rw [(clr1_mach r x).1]; omega) (by rw [mach_clr1]; omega) x.machine.toNat i
  show _=cSpan (chg (mach (clrR r x) x.machine.toNat) i)
  rw [clrR,if_pos h,hc,mach_clr1]
  exact rec_eq (fun h=>by rw [if_neg (fun e=>h e.2)]) (fun h=>by rw [if_pos ⟨rfl,h⟩]; rfl)
 case o62 | o66=>intro h; exact (clr_mach ok x _).1.symm
 case o63=>intro h i _ _; rw [clr_is] at h; rw [clrR,if_neg (by rw [h]; exact Bool.false_ne_true),mach_clr1]
 case o65=>intro h i _; rw [clr_is] at h; rw [clrR,if_neg (by rw [h]; exact Bool.false_ne_true),mach_clr1]; rfl
 case o67=>exact (clrR_eqs r x).2.2.1.symm
 case o68=>exact (clrR_eqs r x).2.2.2.symm
 case o69=>exact (clrR_eqs r x).2.1.symm
 case o70=>rw [(clrR_eqs r x).1]; exact (clr1_mach r x).2.2.2.symm
 case o71=>intro i _; rw [fnd_clrR]
 case o72=>exact clr_fits ok x
 case o73=>intro _; exact k2
 case o74=>intro _; exact one_is k3
 case o75=>intro _; exact clr_fits ok x
 case o76=>intro h; exact (known_ok h).2.1
 case o77=>intro h; exact one_is (known_ok h).2.2
 case o78=>intro h _; exact clr_clear k3 (known_ok h).2.2
end Go.Ab
namespace Go.Ab
open Go Go.RowKit
def Dec (P:Program) (t:TypeId) {α:Type} (c:α->List AV) (ok:α->Prop):Prop :=
 ∀ {H:Type} (enc:TypeId × Value->H) (w:World) (E:Env) (fuel:Nat) (cs:List Value) (d:DataW H) (ps:List MemPlace),
  (∀ b,E.M b=w.heap[b]?)->DataW.trod enc P w 0 (fun _=>true) true fuel t cs=some (d,ps)->(∀ n ∈ d.weights P t,n<=reachBytes) -> ∃ a,ok a /\ ∀ o,RelL E o (c a) cs
theorem mcell_of {E:Env} {w:World} (h:∀ b,E.M b=w.heap[b]?) {a:Addr} {v:Value} (hc:w.cell? a=some v):a.spot=none/\mcell E.M a.block a.off=some v:=by
 refine ⟨World.cell?_spot hc,?_⟩
 have hs:=World.cell?_spot hc
 unfold World.cell? at hc
 unfold mcell
 rw [h]
 split at hc
 ·rename_i c t fr e
  rw [hs] at hc
  rw [e]
  simpa using hc
 ·cases hc
theorem lit_wf {n:Int} (h:(Lit.int .i64 n).wf=true) : -9223372036854775808<=n/\n<=9223372036854775807:=by
 simpa [Lit.wf,IntKind.min,IntKind.max,IntKind.signed,IntKind.bits] using h
theorem dec_int {P:Program} {t:TypeId} (ht:P.underlying t=some (.int .i64)):Dec P t (fun n=>[iv n]) (fun n => -9223372036854775808<=n/\n<=9223372036854775807):=by
 intro H enc w E fuel cs d ps _ h _
 obtain ⟨n,rfl,_,hw⟩:=DataW.trod_int ht h
 exact ⟨n,lit_wf hw,fun o => .cons (.lit _) rfl .nil⟩
theorem weightsAll_mem {H:Type} {P:Program} {e:TypeId}:∀ {l:List (DataW H)} {d:DataW H},d ∈ l -> ∀ n ∈ d.weights P e,n ∈ DataW.weightsAll P e l:=by
 intro l
 induction l with
 | nil=>intro d h; cases h
 | cons x l ih =>
  intro d h n hn
  rw [DataW.weightsAll,List.mem_append]
  rcases List.mem_cons.1 h with rfl | h
  ·exact .inl hn
  ·exact .inr (ih h n hn)
theorem dec_slice {P:Program} {t e:TypeId} {α:Type} [Inhabited α] {c:α->List AV} {ok:α->Prop} (ht:P.underlying t=some (.slice e)) {sz:Nat} (hsz:P.cellsOf e=sz) (hpos:0 < sz) (hby:0 < P.bytesOf e) (he:Dec P e c ok) :
  Dec P t (fun l:List α=>[.sl sz l.length (fun i=>c (l.getD i default))]) (fun l=>l.length<=140737488355328 /\ ∀ a,a ∈ l->ok a):=by
 intro H enc w E fuel cs d ps hE h hw
 rcases Deep.open_slice ht h with ⟨rfl,hx⟩ | ⟨a,len,cap,m,n,D,Pl,rfl,hb,hl,hm,hmm,hx,hall⟩
 ·refine ⟨[],⟨Nat.zero_le _,fun a ha=>by cases ha⟩,fun o => ?_⟩
  exact .cons (.slN _ _) rfl .nil
 ·simp only [if_true] at hmm
  subst hmm
  rw [hsz] at hall
  obtain ⟨rfl,rfl⟩:=Prod.mk.inj hx
  have hwt:∀ i,i < len -> ∀ k ∈ (D i).weights P e,k<=reachBytes:=by
   intro i hi k hk
   refine hw k ?_
   rw [DataW.weights,ht]
   refine List.mem_cons_of_mem _ (List.mem_append_left _ (weightsAll_mem (d:=D i) ?_ k hk))
   exact List.mem_map.2 ⟨i,List.mem_range.2 hi,rfl⟩
  have hlen:len<=140737488355328:=by
   have h1:(((List.range len).map D).length + ((List.range (m - len)).map fun j=>D (len + j)).length) * P.bytesOf e<=reachBytes:=by
    refine hw _ ?_
    rw [DataW.weights,ht]
    exact List.mem_cons_self ..
   simp only [List.length_map,List.length_range] at h1
   have h2:len<=(len + (m - len)) * P.bytesOf e:=Nat.le_trans (Nat.le_add_right _ _) (Nat.le_mul_of_pos_right _ hby)
   have h3:=reachBytes_lt
   omega
  obtain ⟨g,hg⟩:=Deep.choose_lt (α:=List Value) (p:=fun i cs'=>w.cells? 0 (a.add (i * sz)) sz=some cs'/\DataW.trod enc P w 0 (fun _=>true) true n e cs'=some (D i,Pl i)) hall
  have hdec:∀ i,i < len -> ∃ x,ok x /\ ∀ o,RelL E o (c x) (g i):=fun i hi=>he enc w E n (g i) (D i) (Pl i) hE (hg i (by omega)).2 (hwt i hi)
  obtain ⟨A,hA⟩:=Deep.choose_lt (α:=α) (p:=fun i x=>ok x /\ ∀ o,RelL E o (c x) (g i)) hdec
  refine ⟨(List.range len).map A,⟨by simpa using hlen,fun x hx => ?_⟩,fun o => .cons ?_ rfl .nil⟩
  ·obtain ⟨i,hi,rfl⟩:=List.mem_map.1 hx
   exact (hA i (List.mem_range.1 hi)).1
  ·rw [List.length_map,List.length_range]
   have hcell:∀ i k,i < m->k < sz -> ∃ v,(g i)[k]? = some v/\w.cell? ((a.add (i * sz)).add k)=some v:=by
    intro i k hi hk
    obtain ⟨_,hl1,hl2⟩:=World.cells?_some (hg i hi).1
    have:=hl2 k hk
    obtain ⟨v,hv⟩:∃ v,(g i)[k]? = some v:=⟨_,List.getElem?_eq_getElem (by omega)⟩
    exact ⟨v,hv,by rw [this,hv]⟩
   by_cases h0:m=0
   ·subst h0
    obtain rfl:len=0:=by omega
    exact .slZ _ _ _
   ·obtain ⟨v,_,hv⟩:=hcell 0 0 (by omega) hpos
    have hsp:=(mcell_of hE hv).1
    obtain ⟨b,off,spot⟩:=a
    obtain rfl:spot=none:=by simpa [Addr.add] using hsp
    refine .slA sz len _ b off m g hl hm (fun i hi => ?_) (fun i k hi hk => ?_) (fun i hi => ?_)
    ·exact (World.cells?_some (hg i (by omega)).1).2.1
    ·obtain ⟨v,hv1,hv2⟩:=hcell i k (by omega) hk
     rw [hv1]
     have:=(mcell_of hE hv2).2
     rw [addr_add,addr_add] at this
     exact this
    ·have:((List.range len).map A).getD i default=A i:=by
      rw [List.getD_eq_getElem?_getD,List.getElem?_map,List.getElem?_range hi]; rfl
     rw [this]
     exact (hA i hi).2 false
def DecFs (P:Program) (off fin:Nat) (fs:List Field) {α:Type} (c:α->List AV) (ok:α->Prop):Prop :=
 ∀ {H:Type} (enc:TypeId × Value->H) (w:World) (E:Env) (n:Nat) (cs:List Value) (xs:List (DataW H × List MemPlace)),
  (∀ b,E.M b=w.heap[b]?)->cs.length=fin->xs.length=fs.length->(∀ (i:Nat) (f:Field),fs[i]? = some f->DataW.trod enc P w 0 (fun _=>true) true n f.type ((cs.drop f.offset).take (P.cellsOf f.type))=xs[i]?) →
  (∀ k ∈ DataW.weightsEach P (fs.map (·.type)) (xs.map (·.1)),k<=reachBytes) -> ∃ a,ok a /\ ∀ o,RelL E o (c a) (cs.drop off)
theorem decFs_nil {P:Program} {fin:Nat}:DecFs P fin fin [] (fun _:Unit=>[]) (fun _=>True):=by
 intro H enc w E n cs xs _ hl _ _ _
 refine ⟨(),trivial,fun o => ?_⟩
 rw [List.drop_of_length_le (by omega)]
 exact .nil
theorem decFs_cons {P:Program} {off mid fin:Nat} {f:Field} {fs:List Field} {α β:Type} {c1:α->List AV} {ok1:α->Prop} {c2:β->List AV} {ok2:β->Prop} {t:TypeId} (hft:f.type=t) (ho:f.offset=off) (hm:off + P.cellsOf t=mid)
  (h1:Dec P t c1 ok1) (h2:DecFs P mid fin fs c2 ok2):DecFs P off fin (f :: fs) (fun p:α × β=>c1 p.1 ++ c2 p.2) (fun p=>ok1 p.1/\ok2 p.2):=by
 intro H enc w E n cs xs hE hl hx hall hw
 subst hft; subst ho; subst hm
 cases xs with
 | nil=>simp at hx
 | cons x xs =>
  have h0:=hall 0 f rfl
  simp only [List.getElem?_cons_zero] at h0
  obtain ⟨a,ha,hra⟩:=h1 enc w E n _ x.1 x.2 hE h0 (fun k hk=>hw k (by
   simp only [List.map_cons,DataW.weightsEach]
   exact List.mem_append_left _ hk))
  obtain ⟨b,hb,hrb⟩:=h2 enc w E n cs xs hE hl (by simpa using hx) (fun i g hg=>by
   have:=hall (i + 1) g (by simpa using hg)
   simpa using this) (fun k hk=>hw k (by
   simp only [List.map_cons,DataW.weightsEach]
   exact List.mem_append_right _ hk))
  refine ⟨(a,b),⟨ha,hb⟩,fun o => ?_⟩
  have:=(hra o).append (hrb o)
  rw [← List.drop_drop,List.take_append_drop] at this
  exact this
theorem dec_struct {P:Program} {t:TypeId} {fs:Array Field} {sz:Nat} {α:Type} {c:α->List AV} {ok:α->Prop} (ht:P.underlying t=some (.struct fs)) (hsz:P.cellsOf t=sz) (h:DecFs P 0 sz fs.toList c ok):Dec P t c ok:=by
 intro H enc w E fuel cs d ps hE hd hw
 obtain ⟨xs,n,_,hx,hl,hxl,hall⟩:=DataW.trod_struct ht hd
 obtain ⟨rfl,rfl⟩:=Prod.mk.inj hx
 obtain ⟨a,ha,hr⟩:=h enc w E n cs xs hE (by omega) (by simpa using hxl) (fun i f hf=>hall i f (by simpa using hf)) (fun k hk=>hw k (by rw [DataW.weights,ht]; exact hk))
 exact ⟨a,ha,fun o=>by simpa using hr o⟩
theorem Dec.map {P:Program} {t:TypeId} {α β:Type} {c:α->List AV} {ok:α->Prop} {c':β->List AV} {ok':β->Prop} (h:Dec P t c ok) (g:α->β) (hc:∀ a,ok a->c' (g a)=c a) (hok:∀ a,ok a->ok' (g a)):Dec P t c' ok':=by
 intro H enc w E fuel cs d ps hE hd hw
 obtain ⟨a,ha,hr⟩:=h enc w E fuel cs d ps hE hd hw
 exact ⟨g a,hok a ha,fun o=>by rw [hc a ha]; exact hr o⟩
theorem Dec.arg {P:Program} {t:TypeId} {α:Type} {c:α->List AV} {ok:α->Prop} (h:Dec P t c ok) {H:Type} {enc:TypeId × Value->H} {w:World} {E:Env} (hE:∀ b,E.M b=w.heap[b]?) {v:Value} {d:DataW H} {ps:List MemPlace}
  (hd:DataW.Trod enc P w 0 (fun _=>true) true t v d ps) (hw:∀ n ∈ d.weights P t,n<=reachBytes):∃ a,ok a /\ ∀ o,RelL E o (c a) v.cells.toList:=by
 obtain ⟨fuel,hf⟩:=hd
 exact h enc w E fuel _ d ps hE hf hw
def envOf (w:World):Env:={ M:=fun b=>w.heap[b]?,blk:=fun _=>none,hdr:=fun _=>none,fns:=fun _ _=>False }
theorem heapOK_of (P:Program) (w:World):HeapOK (calleeCtx P (envOf w) w []) (envOf w) (Heap.of []) w where
 os:=rfl
 tape:=rfl
 output:=rfl
 size:=Nat.le_refl _
 pres:=fun _ _=>rfl
 mem:=fun _ _ h=>h
 le:=Env.le.refl _
 ext:=fun _ _ h => .inl h
 own:=fun id ob h=>by cases h
 sep:=fun i j k _ h=>absurd rfl h
theorem trodAll_below {H:Type} {enc:TypeId × Value->H} {P:Program} (hl:laidOutB P=true) {W W':World} (hb:Below W.heap.size W W'):∀ {ts:List TypeId} {vs:List Value} {ds:List (DataW H)} {ps:List MemPlace},
  (∀ t ∈ ts,P.readableRec t=true/\t < P.types.size)->DataW.TrodAll enc P W 0 (fun _=>true) true ts vs ds ps->(∀ x ∈ ps,x.block < W.heap.size) →
  DataW.TrodAll enc P W' 0 (fun b=>decide (b < W.heap.size)) true ts vs ds ps:=by
 intro ts
 induction ts with
 | nil =>
  intro vs ds ps _ h _
  obtain ⟨rfl,rfl,rfl⟩:=ChangeShapes.trodAll_nil h
  exact ChangeShapes.trodAll_mk0
 | cons t ts ih =>
  intro vs ds ps hr h hlt
  obtain ⟨v,vs',d,ds',p,q,rfl,rfl,rfl,hd,hrest⟩:=ChangeShapes.trodAll_cons h
  obtain ⟨h1,h2⟩:=hr t (List.mem_cons_self ..)
  exact ⟨p,q,Below.trod hl h1 h2 hd hb (fun x hx=>hlt x (List.mem_append_left _ hx)),ih (fun t ht=>hr t (List.mem_cons_of_mem _ ht)) hrest (fun x hx=>hlt x (List.mem_append_right _ hx)),rfl⟩
theorem law_contract {P:Program} (hl:laidOutB P=true) {f:FuncId} {fn:Func} {s:ChangeSpec} (hvars:s.vars = []) {tb:TypeId} (hres:fn.resultTypes = #[tb]) (htb:P.underlying tb=some .bool)
  (hread:∀ t ∈ fn.params.toList,P.readableRec t=true/\t < P.types.size)
  {H:Type} {enc:TypeId × Value->H} {W:World} {args:Array Value} {ds gs:List (DataW H)} {before:List MemPlace}
  (hfn:ds.length=fn.params.size->s.fn H ds = { results:=[.lit (.bool true)],args:=ds })
  (hW:DataW.Whole enc P fn.params.toList s.vars false W args.toList ds gs before) {sp:CallSpec} (ht:Triple P f sp) (hp:sp.pre) (hfo:∀ E,sp.fnok E) (hin:sp.hin = []) (hout:sp.hout = []) (hr:sp.res=bv true)
  (hla:args.toList.length=sp.args.length) (hra:∀ k,Rel (envOf W) true (sp.args.getD k .any) (args.toList.getD k undef)) :
  Calls P f args W fun e W' => ∃ v,e = .returned v/\s.post enc P fn false true false false W args v W':=by
 have hok:=heapOK_of P W
 have h:=ht.2 hp (envOf W) W args.toList (hfo _) (by rw [hin]; exact hok) hla hra
 refine (h (by rw [hout]; intro p hp; cases hp)).mono fun e W' hpost => ?_
 obtain ⟨v,E',he,hh,hv,_⟩:=hpost
 rw [hr] at hv
 have hvt:v = .bool true:=by cases hv; rfl
 subst hvt
 have hb:Below W.heap.size W W':=⟨hh.os,hh.tape,hh.output,hh.size,fun k hk=>hh.pres k (by
  rintro (hc | ⟨q,hq,_⟩)
  ·exact absurd hk (Nat.not_lt.2 hc)
  ·rw [hin] at hq; cases hq)⟩
 refine ⟨_,he,?_⟩
 have hW':=hW
 obtain ⟨p,q,hA,hV,rfl,hz,hnd⟩:=hW
 rw [hvars] at hV
 obtain ⟨rfl,rfl⟩:=ChangeShapes.trodVars_none hV
 have hlen:ds.length=fn.params.size:=by
  have:∀ {ts:List TypeId} {vs:List Value} {ds:List (DataW H)} {ps:List MemPlace},DataW.TrodAll enc P W 0 (fun _=>true) true ts vs ds ps->ds.length=ts.length:=by
   intro ts
   induction ts with
   | nil=>intro vs ds ps h; obtain ⟨_,rfl,_⟩:=ChangeShapes.trodAll_nil h; rfl
   | cons t ts ih=>intro vs ds ps h; obtain ⟨_,_,_,_,_,_,rfl,rfl,rfl,_,hr⟩:=ChangeShapes.trodAll_cons h; simp [ih hr]
  simpa using this hA
 refine ⟨ds,[],p ++ [],[],p,[],hW',?_,?_,?_,hb.frame _,fun h=>by cases h⟩
 ·rw [List.append_nil,hfn hlen,hres]
  exact ChangeShapes.trodAll_mk1 (shut_bool htb true)
 ·rw [List.append_nil,hfn hlen]
  exact trodAll_below hl hb hread hA (fun x hx=>hW'.lt x (List.mem_append_left _ hx))
 ·rw [List.append_nil,hfn hlen,hvars]
  rfl
end Go.Ab
namespace Go.Ab
open Go Go.RowKit Go.Proofs Go.Sh Go.En
theorem dInt:Dec Try.prog 3 (fun n=>[iv n]) (fun n => -9223372036854775808<=n/\n<=9223372036854775807):=dec_int Try.underlying3
theorem dInts:Dec Try.prog 30 (fun l:List Int=>[aInts l]) (fun l=>l.length<=140737488355328) :=
 Dec.map (dec_slice (α:=Int) Try.underlying30 (by kernel_rfl) (by decide) (Nat.lt_of_lt_of_eq (by decide:0 < 8) (by kernel_rfl)) dInt) id (fun _ _=>rfl) (fun _ h=>h.1)
theorem dSpan:Dec Try.prog 37 cSpan (fun _=>True) :=
 Dec.map (dec_struct Try.underlying37 (sz:=2) (by kernel_rfl) (decFs_cons (mid:=1) rfl rfl (by kernel_rfl) dInt (decFs_cons (mid:=2) rfl rfl (by kernel_rfl) dInt decFs_nil))) (fun p=>(⟨p.1,p.2.1⟩:Span)) (fun _ _=>rfl) (fun _ _=>trivial)
theorem dSpans:Dec Try.prog 40 (fun l:List Span=>[aSpans l]) (fun l=>l.length<=140737488355328) :=
 Dec.map (dec_slice (α:=Span) Try.underlying40 (by kernel_rfl) (by decide) (Nat.lt_of_lt_of_eq (by decide:0 < 16) (by kernel_rfl)) dSpan) id (fun _ _=>rfl) (fun _ h=>h.1)
theorem dMach:Dec Try.prog 42 cMach (fun m=>m.changes.length<=140737488355328) :=
 Dec.map (dec_struct Try.underlying42 (sz:=2) (by kernel_rfl) (decFs_cons (mid:=1) rfl rfl (by kernel_rfl) dSpans (decFs_cons (mid:=2) rfl rfl (by kernel_rfl) dInt decFs_nil))) (fun p=>(⟨p.1,p.2.1⟩:Mach)) (fun _ _=>rfl) (fun _ h=>h.1)
theorem dFnd:Dec Try.prog 32 cFnd (fun c=>c.new.length<=140737488355328/\c.frm.length<=140737488355328) :=
 Dec.map (dec_struct Try.underlying32 (sz:=3) (by kernel_rfl) (decFs_cons (mid:=1) rfl rfl (by kernel_rfl) dInt (decFs_cons (mid:=2) rfl rfl (by kernel_rfl) dInts (decFs_cons (mid:=3) rfl rfl (by kernel_rfl) dInts decFs_nil)))) (fun p=>(⟨p.1,p.2.1,p.2.2.1⟩:Fnd)) (fun _ _=>rfl) (fun _ h=>⟨h.2.1,h.2.2.1⟩)
theorem dMachs:Dec Try.prog 22 (fun l:List Mach=>[.sl 2 l.length (fun i=>cMach (l.getD i default))]) (fun l=>l.length<=140737488355328 /\ ∀ m,m ∈ l->m.changes.length<=140737488355328) :=
 dec_slice (α:=Mach) Try.underlying22 (by kernel_rfl) (by decide) (Nat.lt_of_lt_of_eq (by decide:0 < 32) (by kernel_rfl)) dMach
theorem dFnds:Dec Try.prog 23 (fun l:List Fnd=>[.sl 3 l.length (fun i=>cFnd (l.getD i default))]) (fun l=>l.length<=140737488355328 /\ ∀ c,c ∈ l->c.new.length<=140737488355328/\c.frm.length<=140737488355328) :=
 dec_slice (α:=Fnd) Try.underlying23 (by kernel_rfl) (by decide) (Nat.lt_of_lt_of_eq (by decide:0 < 56) (by kernel_rfl)) dFnd
theorem dRun:Dec Try.prog 25 cRun fits:=by
 refine Dec.map (dec_struct Try.underlying25 (sz:=4) (by kernel_rfl) (decFs_cons (mid:=1) rfl rfl (by kernel_rfl) dInt (decFs_cons (mid:=2) rfl rfl (by kernel_rfl) dInt (decFs_cons (mid:=3) rfl rfl (by kernel_rfl) dMachs (decFs_cons (mid:=4) rfl rfl (by kernel_rfl) dFnds decFs_nil))))) (fun p=>(⟨p.1,p.2.1,p.2.2.1,p.2.2.2.1⟩:Run)) (fun _ _=>rfl) (fun p h => ?_)
 obtain ⟨_,_,⟨h1,h2⟩,⟨h3,h4⟩,_⟩:=h
 refine ⟨Nat.le_trans h1 (by decide),Nat.le_trans h3 (by decide),fun i => ?_,fun i => ?_⟩
 ·show (p.2.2.1.getD i default).changes.length<=_
  by_cases hi:i < p.2.2.1.length
  ·exact Nat.le_trans (h2 _ (getD_mem _ default hi)) (by decide)
  ·rw [getD_ge _ _ (by omega)]; exact Nat.zero_le _
 ·show (p.2.2.2.1.getD i default).new.length<=_/\(p.2.2.2.1.getD i default).frm.length<=_
  by_cases hi:i < p.2.2.2.1.length
  ·have:=h4 _ (getD_mem _ default hi)
   exact ⟨Nat.le_trans this.1 (by decide),Nat.le_trans this.2 (by decide)⟩
  ·rw [getD_ge _ _ (by omega)]; exact ⟨Nat.zero_le _,Nat.zero_le _⟩
set_option maxRecDepth 100000
theorem laidOut:laidOutB Try.prog=true:=by kernel_rfl
section
variable {H:Type} {enc:TypeId × Value->H} {W:World} {base:Nat} {v:Value} {d:DataW H} {ps:List MemPlace}
theorem arg_struct {t:TypeId} {fs:Array Field} {α:Type} {c:α->List AV} {ok:α->Prop} (ht:Try.prog.underlying t=some (.struct fs)) (hD:Dec Try.prog t c ok) (hval:Value.okWide Try.prog W .any base t v) (hd:DataW.Trod enc Try.prog W 0 (fun _=>true) true t v d ps) (hw:∀ n ∈ d.weights Try.prog t,n<=reachBytes) :
  ∃ a,ok a/\Rel (envOf W) true (.agg (c a)) v:=by
 unfold Value.okWide at hval
 rw [ht] at hval
 obtain ⟨cs,rfl,_⟩:=hval
 obtain ⟨a,ha,hr⟩:=hD.arg (E:=envOf W) (fun _=>rfl) hd hw
 refine ⟨a,ha,?_⟩
 have h:=Rel.agg (hr true)
 simpa [Value.cells] using h
end
theorem weights_part {H:Type} {ts:List TypeId} {ds:List (DataW H)} (h:(DataW.weightsEach Try.prog ts ds).all (· <= reachBytes)=true) {j:Nat} {t:TypeId} {d:DataW H} (ht:ts[j]? = some t) (hd:ds[j]? = some d):∀ n ∈ d.weights Try.prog t,n<=reachBytes:=by
 intro n hn
 have:=List.all_eq_true.1 h _ (DataW.weights_mem_each ht hd n hn)
 simpa using this
end Go.Ab
namespace Go.Ab
open Go Go.RowKit Go.Proofs Go.Sh Go.En
set_option maxRecDepth 100000
def ArgD (t:TypeId) (α:Type) (c:α->AV) (ok:α->Prop):Prop :=
 (Try.prog.readableRec t=true/\t < Try.prog.types.size) /\ ∀ {H:Type} {enc:TypeId × Value->H} {W:World} {base:Nat} {v:Value} {d:DataW H} {ps:List MemPlace},Value.okWide Try.prog W .any base t v->DataW.Trod enc Try.prog W 0 (fun _=>true) true t v d ps->(∀ n ∈ d.weights Try.prog t,n<=reachBytes) -> ∃ a,ok a/\Rel (envOf W) true (c a) v
abbrev i64 (n:Int):Prop := -9223372036854775808<=n/\n<=9223372036854775807
theorem argStruct {t:TypeId} {fs:Array Field} {α:Type} {c:α->List AV} {ok:α->Prop} (ht:Try.prog.underlying t=some (.struct fs)) (hr:Try.prog.readableRec t=true/\t < Try.prog.types.size) (hD:Dec Try.prog t c ok):ArgD t α (fun a => .agg (c a)) ok:=⟨hr,fun hv hd hw=>arg_struct ht hD hv hd hw⟩
theorem argRun:ArgD 25 Run (fun r=>vRun r) fits:=argStruct Try.underlying25 ⟨by kernel_rfl,of_decide_eq_true (by kernel_rfl)⟩ dRun
theorem law_two {f:FuncId} {fn:Func} {s:ChangeSpec} {t1 t2:TypeId} {α β:Type} {c1:α->AV} {c2:β->AV} {ok1:α->Prop} {ok2:β->Prop} (h1:ArgD t1 α c1 ok1) (h2:ArgD t2 β c2 ok2)
  (hps:fn.params = #[t1,t2]) (hres:fn.resultTypes = #[4]) (hvars:s.vars = []) (hfn:∀ (H:Type) (d1 d2:DataW H),s.fn H [d1,d2] = { results:=[.lit (.bool true)],args:=[d1,d2] })
  (sp:α->β->CallSpec) (ht:∀ r a,Triple Try.prog f (sp r a)) (hargs:∀ r a,(sp r a).args = [c1 r,c2 a]) (hpre:∀ r a,ok1 r->ok2 a->(sp r a).pre)
  (hfo:∀ r a E,(sp r a).fnok E) (hin:∀ r a,(sp r a).hin = []) (hout:∀ r a,(sp r a).hout = []) (hr:∀ r a,(sp r a).res=bv true)
  {H:Type} {enc:TypeId × Value->H} {W:World} {base:Nat} {args:Array Value} {ds gs:List (DataW H)} {before:List MemPlace}
  (hval:∀ (j:Nat) t v,fn.params[j]? = some t->args[j]? = some v->Value.okWide Try.prog W .any base t v) (hW:DataW.Whole enc Try.prog fn.params.toList s.vars false W args.toList ds gs before)
  (hsz:(DataW.weightsEach Try.prog (fn.params.toList ++ s.plain.varTypes Try.prog) (ds ++ gs)).all (· <= reachBytes)=true) :
  Calls Try.prog f args W fun e W' => ∃ v,e = .returned v/\s.post enc Try.prog fn false true false false W args v W':=by
 have hW':=hW
 obtain ⟨p,q,hA,_,_,_,_⟩:=hW
 rw [hps] at hA hval hsz
 obtain ⟨v0,v1,d0,d1,p0,p1,rfl,rfl,rfl,g0,g1⟩:=ChangeShapes.trodAll_two hA
 obtain ⟨r,hr0,r0⟩:=h1.2 (hval 0 t1 v0 rfl rfl) g0 (weights_part hsz (j:=0) rfl rfl)
 obtain ⟨a,ha,r1⟩:=h2.2 (hval 1 t2 v1 rfl rfl) g1 (weights_part hsz (j:=1) rfl rfl)
 refine law_contract laidOut hvars hres Try.underlying4 (fun t htt => ?_) (fun _=>hfn H d0 d1) hW' (ht r a) (hpre r a hr0 ha) (hfo r a) (hin r a) (hout r a) (hr r a) (by rw [hargs]; rfl) (fun k => ?_)
 ·rw [hps] at htt
  have:t=t1 ∨ t=t2:=by simpa using htt
  rcases this with rfl | rfl
  ·exact h1.1
  ·exact h2.1
 ·rw [hargs]
  rcases k with _ | _ | k
  ·exact r0
  ·exact r1
  ·exact .any _
end Go.Ab
namespace Go.Ab
open Go Go.RowKit Go.Proofs Go.Sh Go.En
set_option maxRecDepth 100000
theorem dClr:Dec Try.prog 68 cClr (fun _=>True):=by
 refine Dec.map (dec_struct Try.underlying68 (sz:=8) (by kernel_rfl) (decFs_cons (mid:=1) rfl rfl (by kernel_rfl) dInt (decFs_cons (mid:=2) rfl rfl (by kernel_rfl) dInt (decFs_cons (mid:=3) rfl rfl (by kernel_rfl) dInt (decFs_cons (mid:=4) rfl rfl (by kernel_rfl) dInt (decFs_cons (mid:=5) rfl rfl (by kernel_rfl) dInt (decFs_cons (mid:=6) rfl rfl (by kernel_rfl) dInt (decFs_cons (mid:=8) rfl rfl (by kernel_rfl) dSpan decFs_nil)))))))) (fun p=>(⟨p.1,p.2.1,p.2.2.1,p.2.2.2.1,p.2.2.2.2.1,p.2.2.2.2.2.1,p.2.2.2.2.2.2.1⟩:Clr)) (fun _ _=>rfl) (fun _ _=>trivial)
theorem argClr:ArgD 68 Clr (fun c=>vClr c) (fun _=>True):=argStruct Try.underlying68 ⟨by kernel_rfl,of_decide_eq_true (by kernel_rfl)⟩ dClr
end Go.Ab
namespace Go.Proofs.Ytcbgfmalillplaa
open Go Go.Ab Go.Sh Go.En Go.RowKit
set_option maxRecDepth 100000
theorem own:ownKnob Try.prog.godebug=none:=by kernel_rfl
def nilArgs:Array Value := #[.agg #[.int .i64 0,.int .i64 0,.slice none 0 0,.slice none 0 0],.agg #[.int .i64 0,.int .i64 0,.int .i64 0,.int .i64 0,.int .i64 0,.int .i64 0,.int .i64 0,.int .i64 0]]
theorem lifted (os:Os) (started:os.Started) (H:Type) (enc:TypeId × Value->H) :
  ReturnsInHanded {} Try.checked os 10 .any (Rows.copiesClearerSpec.pre6 enc Try.prog Try.f10 Rows.copiesClearerRow.domain false) (Rows.copiesClearerSpec.post enc Try.prog Try.f10 false true false false):=by
 refine returnsInHanded_of_change_sized (C:=Try.checked) own started (by kernel_rfl) Try.func10
  (ChangeSpec.witness6 (enc:=enc) (C:=Try.checked) false ⟨#[],nilArgs,[]⟩ 8 (by kernel_rfl) (by kernel_rfl) (by kernel_rfl) (by kernel_rfl)) ?_
 intro W base args ds gs before hval hW _ hsz _
 exact law_two argRun argClr Try.params10 rfl rfl (fun _ _ _=>rfl) s10 t10 (fun _ _=>rfl) (fun _ _ h _=>h) (fun _ _ _=>trivial) (fun _ _=>rfl) (fun _ _=>rfl) (fun _ _=>rfl) hval hW hsz
theorem proved:Rows.CopiesClearerSaid :=
 OpenClaim.holds_of_wide 10 Try.f10 rfl rfl rfl rfl rfl rfl rfl ⟨rfl,rfl,rfl,rfl,rfl⟩ rfl rfl rfl rfl rfl (by kernel_rfl) Try.func10 (by kernel_rfl)
  (of_decide_eq_true (by kernel_rfl)) (by unfold Func.isWrapper; first | (rw [if_pos (by decide +kernel)]; kernel_rfl) | (rw [if_neg (by decide +kernel)]; exact ⟨rfl,rfl⟩))
  (fun os started H enc _=>lifted os started H enc)
end Go.Proofs.Ytcbgfmalillplaa
