/- CopiesEach returns true for every run and a truth, and leaves what it was handed as it was. No condition. -/
import Derived.Test.YtcbgfmalillplaaQEach5
import Derived.Deep.Slices
import Derived.ChangeShapes
import Derived.Carry
import Derived.OpenShut
import Derived.SizedLaws
import Derived.Test.YtcbgfmalillplaaRows
import Derived.ProofKit
import Derived.JoinedOf
set_option linter.all false
set_option linter.deprecated false
namespace Go.Ab
open Go Go.RowKit Go.Proofs Go.Sh Go.En
abbrev q12_1 (r:Run) (t:Trth) (C:Prop):Prop:=fits r/\tfits t->(bif bif !ready r then true else longB t then true else !isTruth r t)=false->C
abbrev q12_2 (r:Run) (t:Trth) (C:Nat->Prop):Prop:=q12_1 r t (∀ (x20:Nat),x20<=r.machines.length->decide ((x20:Int) < (↑(r.machines.length):Int))=true->C x20)
abbrev q12_3 (r:Run) (t:Trth) (C:Nat->Nat->Prop):Prop:=q12_2 r t fun x20 => ∀ (x24:Nat),x24<=r.plates.toNat->decide ((x24:Int) < r.plates)=true->C x20 x24
abbrev q12_4 (r:Run) (t:Trth) (C:Nat->Nat->Prop):Prop:=q12_2 r t fun x20 => ∀ (x24:Nat),x24<=r.plates.toNat->decide ((x24:Int) < r.plates)=false->C x20 x24
abbrev q12_5 (r:Run) (t:Trth) (C:Nat->Nat->Prop):Prop:=q12_4 r t fun x20 x24=>(!bif decide ((Tld.mixed (toldOf r)).getD x20 0=1) then decide (firstN t x20 x24=lastN t x20 x24) else false)=true->C x20 x24
abbrev q12_6 (r:Run) (t:Trth) (C:Nat->Nat->Prop):Prop:=q12_4 r t fun x20 x24=>isIn t.frm (x20:Int)=true->C x20 x24
abbrev q12_7 (r:Run) (t:Trth) (C:Nat->Nat->Prop):Prop:=q12_4 r t fun x20 x24=>isIn t.frm (x20:Int)=false->C x20 x24
abbrev q12_8 (r:Run) (t:Trth) (C:Nat->Prop):Prop:=q12_1 r t (∀ (x20:Nat),x20<=r.machines.length->decide ((x20:Int) < (↑(r.machines.length):Int))=false->C x20)
abbrev q12_9 (r:Run) (t:Trth) (C:Nat->Nat->Prop):Prop:=q12_8 r t fun x20 => ∀ (x78:Nat),x78<=r.plates.toNat->decide ((x78:Int) < r.plates)=true->C x20 x78
abbrev q12_10 (r:Run) (t:Trth) (C:Nat->Nat->Prop):Prop:=q12_8 r t fun x20 => ∀ (x78:Nat),x78<=r.plates.toNat->decide ((x78:Int) < r.plates)=false->C x20 x78
abbrev q12_11 (r:Run) (t:Trth) (C:Nat->Nat->Nat->Prop):Prop:=q12_10 r t fun x20 x78 => ∀ (x81:Nat),x81<=r.found.length->decide ((x81:Int) < (↑(t.frm.length):Int))=true->C x20 x78 x81
abbrev q12_12 (r:Run) (t:Trth) (C:Nat->Nat->Nat->Nat->Prop):Prop:=q12_11 r t fun x20 x78 x81 => ∀ (x84:Nat),x84<=r.found.length->decide ((x84:Int) < (↑(t.frm.length):Int))=true->C x20 x78 x81 x84
abbrev q12_13 (r:Run) (t:Trth) (C:Nat->Nat->Nat->Nat->Prop):Prop:=q12_11 r t fun x20 x78 x81 => ∀ (x84:Nat),x84<=r.found.length->decide ((x84:Int) < (↑(t.frm.length):Int))=false->C x20 x78 x81 x84
abbrev q12_14 (r:Run) (t:Trth) (C:Nat->Nat->Nat->Nat->Nat->Prop):Prop:=q12_13 r t fun x20 x78 x81 x84 => ∀ (x121:Nat),x121<=r.plates.toNat->decide ((x121:Int) < r.plates)=true->C x20 x78 x81 x84 x121
abbrev q12_15 (r:Run) (t:Trth) (C:Nat->Nat->Nat->Nat->Nat->Prop):Prop:=q12_13 r t fun x20 x78 x81 x84 => ∀ (x121:Nat),x121<=r.plates.toNat->decide ((x121:Int) < r.plates)=false->C x20 x78 x81 x84 x121
theorem w12 (r:Run) (t:Trth)
 (o0:fits r/\tfits t->(!ready r)=false->(!!ready r)=true)
 (o1:fits r/\tfits t->(!bif !ready r then true else longB t)=true->okRun r=true)
 (o2:fits r/\tfits t->(bif !ready r then true else longB t)=false->(!bif !ready r then true else longB t)=true)
 (o3:q12_1 r t (okRun r=true))
 (o4:q12_1 r t (isOne r=true))
 (o5:q12_1 r t (0<=r.plates))
 (o6:q12_1 r t (r.plates<=65536))
 (o7:q12_1 r t (0=mixN r t 0))
 (o8:q12_1 r t (0=(↑(usedTo t.frm 0):Int)))
 (o9:q12_1 r t (0=(↑0:Int)))
 (o10:q12_1 r t (∀ (i21:Nat),i21 < r.plates.toNat -> [iv 0] = [iv (oldN r t i21 0)]))
 (o11:q12_1 r t (0<=r.machines.length))
 (o12:q12_2 r t fun x20=>0<=(x20:Int))
 (o13:q12_2 r t fun x20=>(x20:Int) < (↑(t.minutes.length):Int))
 (o14:q12_2 r t fun x20=>0 < (↑((t.minutes.getD x20 []).length):Int))
 (o15:q12_2 r t fun x20=>0<=(x20:Int))
 (o16:q12_2 r t fun x20=>(x20:Int) < (↑(t.minutes.length):Int))
 (o17:q12_2 r t fun x20=>0 < (↑((t.minutes.getD x20 []).length):Int))
 (o18:q12_2 r t fun x20=>(t.minutes.getD x20 []).getD 0 0=firstN t x20 0)
 (o19:q12_2 r t fun x20=>(t.minutes.getD x20 []).getD 0 0=lastN t x20 0)
 (o20:q12_2 r t fun x20=>0=(↑0:Int))
 (o21:q12_2 r t fun x20 => ∀ (i25:Nat),i25 < r.plates.toNat -> [iv (oldN r t i25 x20)] = [iv (oldAt r t x20 0 i25)])
 (o22:q12_2 r t fun x20=>0<=r.plates.toNat)
 (o23:q12_3 r t fun x20 x24=>0<=(x20:Int))
 (o24:q12_3 r t fun x20 x24=>(x20:Int) < (↑(t.minutes.length):Int))
 (o25:q12_3 r t fun x20 x24=>0<=(x24:Int))
 (o26:q12_3 r t fun x20 x24=>(x24:Int) < (↑((t.minutes.getD x20 []).length):Int))
 (o27:q12_3 r t fun x20 x24=>inI ((x20:Int) * r.plates))
 (o28:q12_3 r t fun x20 x24=>inI ((x20:Int) * r.plates + (x24:Int)))
 (o29:q12_3 r t fun x20 x24=>0<=(x20:Int) * r.plates + (x24:Int))
 (o30:q12_3 r t fun x20 x24=>(x20:Int) * r.plates + (x24:Int) < (↑((Tld.when (toldOf r)).length):Int))
 (o31:q12_3 r t fun x20 x24=>(!has ((Tld.when (toldOf r)).getD ((x20:Int) * r.plates + (x24:Int)).toNat default) ((t.minutes.getD x20 []).getD x24 0))=false)
 (o32:q12_3 r t fun x20 x24=>0<=(x24:Int))
 (o33:q12_3 r t fun x20 x24=>(x24:Int) < (↑(r.plates.toNat):Int))
 (o34:q12_3 r t fun x20 x24=>x24 < r.plates.toNat)
 (o35:q12_3 r t fun x20 x24=>0<=(x20:Int))
 (o36:q12_3 r t fun x20 x24=>(x20:Int) < (↑(r.machines.length):Int))
 (o37:q12_3 r t fun x20 x24=>inI ((mach r x20).rate * (t.minutes.getD x20 []).getD x24 0))
 (o38:q12_3 r t fun x20 x24=>inI (oldAt r t x20 x24 x24 + (mach r x20).rate * (t.minutes.getD x20 []).getD x24 0))
 (o39:q12_3 r t fun x20 x24=>0<=(x24:Int))
 (o40:q12_3 r t fun x20 x24=>(x24:Int) < (↑(r.plates.toNat):Int))
 (o41:q12_3 r t fun x20 x24=>x24 < r.plates.toNat)
 (o42:q12_3 r t fun x20 x24=>inI ((x24:Int) + 1))
 (o43:q12_3 r t fun x20 x24=>min (firstN t x20 x24) ((t.minutes.getD x20 []).getD x24 0)=firstN t x20 (x24 + 1))
 (o44:q12_3 r t fun x20 x24=>max (lastN t x20 x24) ((t.minutes.getD x20 []).getD x24 0)=lastN t x20 (x24 + 1))
 (o45:q12_3 r t fun x20 x24=>(x24:Int) + 1=(↑(x24 + 1):Int))
 (o46:q12_3 r t fun x20 x24 => ∀ (i29:Nat),i29 < r.plates.toNat->Decidable.rec (fun (h:¬i29=x24)=>[iv (oldAt r t x20 x24 i29)]) (fun (h:i29=x24)=>[iv (oldAt r t x20 x24 x24 + (mach r x20).rate * (t.minutes.getD x20 []).getD x24 0)] ++ []) (instDecidableEqNat i29 x24) = [iv (oldAt r t x20 (x24 + 1) i29)])
 (o47:q12_3 r t fun x20 x24=>x24 + 1<=r.plates.toNat)
 (o48:q12_3 r t fun x20 x24=>r.plates.toNat - (x24 + 1) < r.plates.toNat - x24)
 (o49:q12_4 r t fun x20 x24=>0<=(x20:Int))
 (o50:q12_4 r t fun x20 x24=>(x20:Int) < (↑(r.machines.length):Int))
 (o51:q12_4 r t fun x20 x24=>inI (lastN t x20 x24 - firstN t x20 x24))
 (o52:q12_4 r t fun x20 x24=>inI ((mach r x20).rate * (lastN t x20 x24 - firstN t x20 x24)))
 (o53:q12_4 r t fun x20 x24=>inI (mixN r t x20 + (mach r x20).rate * (lastN t x20 x24 - firstN t x20 x24)))
 (o54:q12_4 r t fun x20 x24=>0<=(x20:Int))
 (o55:q12_4 r t fun x20 x24=>(x20:Int) < (↑((Tld.mixed (toldOf r)).length):Int))
 (o56:q12_5 r t fun x20 x24=>0<=(x20:Int))
 (o57:q12_5 r t fun x20 x24=>(x20:Int) < (↑((Tld.mixed (toldOf r)).length):Int))
 (o58:q12_5 r t fun x20 x24=>decide ((Tld.mixed (toldOf r)).getD x20 0=2)=true->((!bif decide ((Tld.mixed (toldOf r)).getD x20 0=1) then decide (firstN t x20 x24=lastN t x20 x24) else false) && decide ((Tld.mixed (toldOf r)).getD x20 0=2))=true)
 (o59:q12_4 r t fun x20 x24=>(bif decide ((Tld.mixed (toldOf r)).getD x20 0=1) then decide (firstN t x20 x24=lastN t x20 x24) else false)=false->(!bif decide ((Tld.mixed (toldOf r)).getD x20 0=1) then decide (firstN t x20 x24=lastN t x20 x24) else false)=true)
 (o60:q12_4 r t fun x20 x24=>(bif bif decide ((Tld.mixed (toldOf r)).getD x20 0=1) then decide (firstN t x20 x24=lastN t x20 x24) else false then true else bif decide ((Tld.mixed (toldOf r)).getD x20 0=2) then decide (firstN t x20 x24 < lastN t x20 x24) else false)=false)
 (o61:q12_4 r t fun x20 x24=>t.frm.length<=1125899906842624)
 (o62:q12_6 r t fun x20 x24=>inI ((↑(usedTo t.frm x20):Int) + 1))
 (o63:q12_6 r t fun x20 x24=>inI ((x20:Int) + 1))
 (o64:q12_6 r t fun x20 x24=>mixN r t x20 + (mach r x20).rate * (lastN t x20 x24 - firstN t x20 x24)=mixN r t (x20 + 1))
 (o65:q12_6 r t fun x20 x24=>(↑(usedTo t.frm x20):Int) + 1=(↑(usedTo t.frm (x20 + 1)):Int))
 (o66:q12_6 r t fun x20 x24=>(x20:Int) + 1=(↑(x20 + 1):Int))
 (o67:q12_6 r t fun x20 x24 => ∀ (i64:Nat),i64 < r.plates.toNat -> [iv (oldAt r t x20 x24 i64)] = [iv (oldN r t i64 (x20 + 1))])
 (o68:q12_6 r t fun x20 x24=>x20 + 1<=r.machines.length)
 (o69:q12_6 r t fun x20 x24=>r.machines.length - (x20 + 1) < r.machines.length - x20)
 (o70:q12_7 r t fun x20 x24=>inI ((x20:Int) + 1))
 (o71:q12_7 r t fun x20 x24=>mixN r t x20 + (mach r x20).rate * (lastN t x20 x24 - firstN t x20 x24)=mixN r t (x20 + 1))
 (o72:q12_7 r t fun x20 x24=>(↑(usedTo t.frm x20):Int)=(↑(usedTo t.frm (x20 + 1)):Int))
 (o73:q12_7 r t fun x20 x24=>(x20:Int) + 1=(↑(x20 + 1):Int))
 (o74:q12_7 r t fun x20 x24 => ∀ (i66:Nat),i66 < r.plates.toNat -> [iv (oldAt r t x20 x24 i66)] = [iv (oldN r t i66 (x20 + 1))])
 (o75:q12_7 r t fun x20 x24=>x20 + 1<=r.machines.length)
 (o76:q12_7 r t fun x20 x24=>r.machines.length - (x20 + 1) < r.machines.length - x20)
 (o77:q12_8 r t fun x20=>(!has (Tld.mixes (toldOf r)) (mixN r t x20))=false->(!!has (Tld.mixes (toldOf r)) (mixN r t x20))=true)
 (o78:q12_8 r t fun x20=>(bif !has (Tld.mixes (toldOf r)) (mixN r t x20) then true else decide ((↑(usedTo t.frm x20):Int) < Tld.fewest (toldOf r)))=false)
 (o79:q12_8 r t fun x20=>0=(↑0:Int))
 (o80:q12_8 r t fun x20=>0<=r.plates.toNat)
 (o81:q12_9 r t fun x20 x78=>0<=(x78:Int))
 (o82:q12_9 r t fun x20 x78=>(x78:Int) < (↑((Tld.old (toldOf r)).length):Int))
 (o83:q12_9 r t fun x20 x78=>0<=(x78:Int))
 (o84:q12_9 r t fun x20 x78=>(x78:Int) < (↑(r.plates.toNat):Int))
 (o85:q12_9 r t fun x20 x78=>x78 < r.plates.toNat)
 (o86:q12_9 r t fun x20 x78=>(!has ((Tld.old (toldOf r)).getD x78 default) (oldN r t x78 x20))=false)
 (o87:q12_9 r t fun x20 x78=>inI ((x78:Int) + 1))
 (o88:q12_9 r t fun x20 x78=>(x78:Int) + 1=(↑(x78 + 1):Int))
 (o89:q12_9 r t fun x20 x78=>x78 + 1<=r.plates.toNat)
 (o90:q12_9 r t fun x20 x78=>r.plates.toNat - (x78 + 1) < r.plates.toNat - x78)
 (o91:q12_10 r t fun x20 x78=>0=(↑0:Int))
 (o92:q12_10 r t fun x20 x78=>0<=r.found.length)
 (o93:q12_11 r t fun x20 x78 x81=>0<=(x81:Int))
 (o94:q12_11 r t fun x20 x78 x81=>(x81:Int) < (↑((Tld.whr (toldOf r)).length):Int))
 (o95:q12_11 r t fun x20 x78 x81=>0<=(x81:Int))
 (o96:q12_11 r t fun x20 x78 x81=>(x81:Int) < (↑(t.frm.length):Int))
 (o97:q12_11 r t fun x20 x78 x81=>((Tld.whr (toldOf r)).getD x81 []).length<=1125899906842624)
 (o98:q12_11 r t fun x20 x78 x81=>(!isIn ((Tld.whr (toldOf r)).getD x81 []) (t.frm.getD x81 0))=false)
 (o99:q12_11 r t fun x20 x78 x81=>0=(↑0:Int))
 (o100:q12_11 r t fun x20 x78 x81=>0<=r.found.length)
 (o101:q12_12 r t fun x20 x78 x81 x84=>0<=(x81:Int))
 (o102:q12_12 r t fun x20 x78 x81 x84=>(x81:Int) < (↑(t.frm.length):Int))
 (o103:q12_12 r t fun x20 x78 x81 x84=>0<=(x84:Int))
 (o104:q12_12 r t fun x20 x78 x81 x84=>(x84:Int) < (↑(t.frm.length):Int))
 (o105:q12_12 r t fun x20 x78 x81 x84=>(!!decide (openE r (sameIs r (x81:Int) (x84:Int))=0))->decide (sameS r (x81:Int) (x84:Int)=1)=true->(!!decide (openE r (sameIs r (x81:Int) (x84:Int))=0) && decide (sameS r (x81:Int) (x84:Int)=1))=true)
 (o106:q12_12 r t fun x20 x78 x81 x84=>(!decide (openE r (sameIs r (x81:Int) (x84:Int))=0))=false->(!!decide (openE r (sameIs r (x81:Int) (x84:Int))=0))=true)
 (o107:q12_12 r t fun x20 x78 x81 x84=>(!bif !decide (openE r (sameIs r (x81:Int) (x84:Int))=0) then true else bif decide (sameS r (x81:Int) (x84:Int)=1) then !decide (t.frm.getD x81 0=t.frm.getD x84 0) else false)=true->decide (sameS r (x81:Int) (x84:Int)=2)=true->((!bif !decide (openE r (sameIs r (x81:Int) (x84:Int))=0) then true else bif decide (sameS r (x81:Int) (x84:Int)=1) then !decide (t.frm.getD x81 0=t.frm.getD x84 0) else false) && decide (sameS r (x81:Int) (x84:Int)=2))=true)
 (o108:q12_12 r t fun x20 x78 x81 x84=>(bif !decide (openE r (sameIs r (x81:Int) (x84:Int))=0) then true else bif decide (sameS r (x81:Int) (x84:Int)=1) then !decide (t.frm.getD x81 0=t.frm.getD x84 0) else false)=false->(!bif !decide (openE r (sameIs r (x81:Int) (x84:Int))=0) then true else bif decide (sameS r (x81:Int) (x84:Int)=1) then !decide (t.frm.getD x81 0=t.frm.getD x84 0) else false)=true)
 (o109:q12_12 r t fun x20 x78 x81 x84=>(bif bif !decide (openE r (sameIs r (x81:Int) (x84:Int))=0) then true else bif decide (sameS r (x81:Int) (x84:Int)=1) then !decide (t.frm.getD x81 0=t.frm.getD x84 0) else false then true else bif decide (sameS r (x81:Int) (x84:Int)=2) then decide (t.frm.getD x81 0=t.frm.getD x84 0) else false)=false->(!bif bif !decide (openE r (sameIs r (x81:Int) (x84:Int))=0) then true else bif decide (sameS r (x81:Int) (x84:Int)=1) then !decide (t.frm.getD x81 0=t.frm.getD x84 0) else false then true else bif decide (sameS r (x81:Int) (x84:Int)=2) then decide (t.frm.getD x81 0=t.frm.getD x84 0) else false)=true)
 (o110:q12_12 r t fun x20 x78 x81 x84=>(bif bif bif !decide (openE r (sameIs r (x81:Int) (x84:Int))=0) then true else bif decide (sameS r (x81:Int) (x84:Int)=1) then !decide (t.frm.getD x81 0=t.frm.getD x84 0) else false then true else bif decide (sameS r (x81:Int) (x84:Int)=2) then decide (t.frm.getD x81 0=t.frm.getD x84 0) else false then true else !within (sameS r (x81:Int) (x84:Int)) 1 3)=false)
 (o111:q12_12 r t fun x20 x78 x81 x84=>inI ((x84:Int) + 1))
 (o112:q12_12 r t fun x20 x78 x81 x84=>(x84:Int) + 1=(↑(x84 + 1):Int))
 (o113:q12_12 r t fun x20 x78 x81 x84=>x84 + 1<=r.found.length)
 (o114:q12_12 r t fun x20 x78 x81 x84=>r.found.length - (x84 + 1) < r.found.length - x84)
 (o115:q12_13 r t fun x20 x78 x81 x84=>0=(↑0:Int))
 (o116:q12_13 r t fun x20 x78 x81 x84=>0<=r.plates.toNat)
 (o117:q12_14 r t fun x20 x78 x81 x84 x121=>0<=(x81:Int))
 (o118:q12_14 r t fun x20 x78 x81 x84 x121=>(x81:Int) < (↑(t.frm.length):Int))
 (o119:q12_14 r t fun x20 x78 x81 x84 x121=>0<=t.frm.getD x81 0)
 (o120:q12_14 r t fun x20 x78 x81 x84 x121=>t.frm.getD x81 0 < (↑(t.minutes.length):Int))
 (o121:q12_14 r t fun x20 x78 x81 x84 x121=>0<=(x121:Int))
 (o122:q12_14 r t fun x20 x78 x81 x84 x121=>(x121:Int) < (↑((t.minutes.getD (t.frm.getD x81 0).toNat []).length):Int))
 (o123:q12_14 r t fun x20 x78 x81 x84 x121=>0<=(x81:Int))
 (o124:q12_14 r t fun x20 x78 x81 x84 x121=>(x81:Int) < (↑(r.found.length):Int))
 (o125:q12_14 r t fun x20 x78 x81 x84 x121=>(!!decide (openE r (readIs r (x81:Int) (x121:Int))=0))->decide (readS r (x81:Int) (x121:Int)=1)=true->(!!decide (openE r (readIs r (x81:Int) (x121:Int))=0) && decide (readS r (x81:Int) (x121:Int)=1))=true)
 (o126:q12_14 r t fun x20 x78 x81 x84 x121=>(!decide (openE r (readIs r (x81:Int) (x121:Int))=0))=false->(!!decide (openE r (readIs r (x81:Int) (x121:Int))=0))=true)
 (o127:q12_14 r t fun x20 x78 x81 x84 x121=>(!bif !decide (openE r (readIs r (x81:Int) (x121:Int))=0) then true else bif decide (readS r (x81:Int) (x121:Int)=1) then !decide ((t.minutes.getD (t.frm.getD x81 0).toNat []).getD x121 0<=(fnd r x81).minute) else false)=true->decide (readS r (x81:Int) (x121:Int)=2)=true->((!bif !decide (openE r (readIs r (x81:Int) (x121:Int))=0) then true else bif decide (readS r (x81:Int) (x121:Int)=1) then !decide ((t.minutes.getD (t.frm.getD x81 0).toNat []).getD x121 0<=(fnd r x81).minute) else false) && decide (readS r (x81:Int) (x121:Int)=2))=true)
 (o128:q12_14 r t fun x20 x78 x81 x84 x121=>(bif !decide (openE r (readIs r (x81:Int) (x121:Int))=0) then true else bif decide (readS r (x81:Int) (x121:Int)=1) then !decide ((t.minutes.getD (t.frm.getD x81 0).toNat []).getD x121 0<=(fnd r x81).minute) else false)=false->(!bif !decide (openE r (readIs r (x81:Int) (x121:Int))=0) then true else bif decide (readS r (x81:Int) (x121:Int)=1) then !decide ((t.minutes.getD (t.frm.getD x81 0).toNat []).getD x121 0<=(fnd r x81).minute) else false)=true)
 (o129:q12_14 r t fun x20 x78 x81 x84 x121=>(bif bif !decide (openE r (readIs r (x81:Int) (x121:Int))=0) then true else bif decide (readS r (x81:Int) (x121:Int)=1) then !decide ((t.minutes.getD (t.frm.getD x81 0).toNat []).getD x121 0<=(fnd r x81).minute) else false then true else bif decide (readS r (x81:Int) (x121:Int)=2) then decide ((t.minutes.getD (t.frm.getD x81 0).toNat []).getD x121 0<=(fnd r x81).minute) else false)=false->(!bif bif !decide (openE r (readIs r (x81:Int) (x121:Int))=0) then true else bif decide (readS r (x81:Int) (x121:Int)=1) then !decide ((t.minutes.getD (t.frm.getD x81 0).toNat []).getD x121 0<=(fnd r x81).minute) else false then true else bif decide (readS r (x81:Int) (x121:Int)=2) then decide ((t.minutes.getD (t.frm.getD x81 0).toNat []).getD x121 0<=(fnd r x81).minute) else false)=true)
 (o130:q12_14 r t fun x20 x78 x81 x84 x121=>(bif bif bif !decide (openE r (readIs r (x81:Int) (x121:Int))=0) then true else bif decide (readS r (x81:Int) (x121:Int)=1) then !decide ((t.minutes.getD (t.frm.getD x81 0).toNat []).getD x121 0<=(fnd r x81).minute) else false then true else bif decide (readS r (x81:Int) (x121:Int)=2) then decide ((t.minutes.getD (t.frm.getD x81 0).toNat []).getD x121 0<=(fnd r x81).minute) else false then true else !within (readS r (x81:Int) (x121:Int)) 1 3)=false)
 (o131:q12_14 r t fun x20 x78 x81 x84 x121=>inI ((x121:Int) + 1))
 (o132:q12_14 r t fun x20 x78 x81 x84 x121=>(x121:Int) + 1=(↑(x121 + 1):Int))
 (o133:q12_14 r t fun x20 x78 x81 x84 x121=>x121 + 1<=r.plates.toNat)
 (o134:q12_14 r t fun x20 x78 x81 x84 x121=>r.plates.toNat - (x121 + 1) < r.plates.toNat - x121)
 (o135:q12_15 r t fun x20 x78 x81 x84 x121=>inI ((x81:Int) + 1))
 (o136:q12_15 r t fun x20 x78 x81 x84 x121=>(x81:Int) + 1=(↑(x81 + 1):Int))
 (o137:q12_15 r t fun x20 x78 x81 x84 x121=>x81 + 1<=r.found.length)
 (o138:q12_15 r t fun x20 x78 x81 x84 x121=>r.found.length - (x81 + 1) < r.found.length - x81) :
  Triple Try.prog 12 (s12 r t):=by
 refine triple_of Try.func12 rfl Try.call12 T0_ok _ rfl rfl rfl rfl (Nat.le_of_ble_eq_true (by kernel_rfl)) (fun _ _ _ _ h=>h) ?_
 intro hp C hC _ hE
 obtain ⟨P,w0,E0,av,hA⟩:=C
 subst hC
 refine swp_seq ?_
 refine sR (kt:=[2,3]) (kh:=[0,8]) (q:=True/\True/\True/\True) (st':=ASt.mk [(2,.ptr 0 []),(3,.ptr 8 [])] [(0,.cells 25 (cRun r)),(8,.cells 56 (cTrth t))] 24) (by kernel_rfl) ⟨tv,tv,tv,tv⟩ ?_
 refine swp_seq (swp_seq ?_)
 refine swp_region T0_ok mixed (cs:=[(1,CallSpec.eq (s17 r) [true]),(5,CallSpec.eq (s49 t) [true]),(10,CallSpec.eq (s50 r t) [true,true])]) (kt:=[2,3,37]) (kh:=[0,8]) (q:=True/\((AV.agg (cRun r)=AV.agg (cRun r)/\True)/\Triple Try.prog 17 (s17 r)/\fits r/\True /\ ∀ (i0:Env),True)/\True/\True/\((!!ready r)=true->(True/\True)/\True)/\((!!ready r)=true->(True/\((!!ready r)=true->(!!ready r)=true)/\True)/\(AV.agg (cTrth t)=AV.agg (cTrth t)/\True)/\Triple Try.prog 49 (s49 t)/\tfits t/\True /\ ∀ (i4:Env),True)/\(((!ready r)=true->True)/\((!ready r)=false->(!!ready r)=true))/\True/\((!bif !ready r then true else longB t)=true->(True/\True)/\True)/\((!bif !ready r then true else longB t)=true->(True/\True)/\True)/\((!bif !ready r then true else longB t)=true->(True/\((!bif !ready r then true else longB t)=true->(!bif !ready r then true else longB t)=true)/\((!bif !ready r then true else longB t)=true->(!bif !ready r then true else longB t)=true)/\True)/\(AV.agg (cRun r)=AV.agg (cRun r)/\AV.agg (cTrth t)=AV.agg (cTrth t)/\True)/\Triple Try.prog 50 (s50 r t)/\(okRun r=true/\tfits t)/\True /\ ∀ (i12:Env),True)/\((!bif !ready r then true else longB t)=true->(((!bif !ready r then true else longB t)=true->(!bif !ready r then true else longB t)=true)/\True)/\True)/\(((bif !ready r then true else longB t)=true->True)/\((bif !ready r then true else longB t)=false->(!bif !ready r then true else longB t)=true))/\True) (st':=ASt.mk [(2,.ptr 0 []),(3,.ptr 8 []),(37,bv (bif bif !ready r then true else longB t then true else !isTruth r t))] [(0,.cells 25 (cRun r)),(8,.cells 56 (cTrth t))] 128) (by kernel_rfl) ⟨tv,⟨⟨rfl,tv⟩,(t17 (r)),hp.1,tv,(fun i0=>tv)⟩,tv,tv,(fun h1=>⟨⟨tv,tv⟩,tv⟩),(fun h2=>⟨⟨tv,(fun h3=>h2),tv⟩,⟨rfl,tv⟩,(t49 (t)),hp.2,tv,(fun i4=>tv)⟩),⟨(fun h5=>tv),(fun h6=>(o0 hp h6))⟩,tv,(fun h7=>⟨⟨tv,tv⟩,tv⟩),(fun h8=>⟨⟨tv,tv⟩,tv⟩),(fun h9=>⟨⟨tv,(fun h10=>h9),(fun h11=>h9),tv⟩,⟨rfl,rfl,tv⟩,(t50 (r) (t)),⟨(o1 hp h9),hp.2⟩,tv,(fun i12=>tv)⟩),(fun h13=>⟨⟨(fun h14=>h13),tv⟩,tv⟩),⟨(fun h15=>tv),(fun h16=>(o2 hp h16))⟩,tv⟩ ?_
 refine swp_cond (bif bif !ready r then true else longB t then true else !isTruth r t) (by kernel_rfl) (fun h17 => ?_) (fun h17 => ?_)
 ·refine swp_seq ?_
  refine swp_region T0_ok mixed (cs:=[(0,CallSpec.eq s19 [])]) (kt:=[4]) (kh:=[]) (q:=(True/\Triple Try.prog 19 s19/\True/\True /\ ∀ (i18:Env),True)/\True/\True) (st':=ASt.mk [(4,bv true)] [] 144) (by kernel_rfl) ⟨⟨tv,(t19),tv,tv,(fun i18=>tv)⟩,tv,tv⟩ ?_
  refine swp_ret ?_
  exact ret_q [] ((True/\True)/\(bv true=bv true/\nilN = [])/\T3) (by kernel_rfl) ⟨⟨tv,tv⟩,⟨rfl,rfl⟩,rfl,rfl,rfl⟩
 ·refine swp_skip (swp_seq ?_)
  refine swp_region T0_ok mixed (cs:=[(1,CallSpec.eq (s47 r) [true])]) (kt:=[2,3,5,6]) (kh:=[0,8,168]) (q:=True/\((AV.agg (cRun r)=AV.agg (cRun r)/\True)/\Triple Try.prog 47 (s47 r)/\(fits r/\okRun r=true/\isOne r=true)/\True /\ ∀ (i19:Env),True)/\True/\True/\True/\True/\True/\True/\True) (st':=ASt.mk [(2,.ptr 0 []),(3,.ptr 8 []),(5,.ptr 168 []),(6,bv true)] [(0,.cells 25 (cRun r)),(8,.cells 56 (cTrth t)),(168,.cells 62 (cTld (toldOf r)))] 192) (by kernel_rfl) ⟨tv,⟨⟨rfl,tv⟩,(t47 (r)),⟨hp.1,(o3 hp h17),(o4 hp h17)⟩,tv,(fun i19=>tv)⟩,tv,tv,tv,tv,tv,tv,tv⟩ ?_
  refine swp_seq (swp_seq ?_)
  refine sR (kt:=[2,3,5,45]) (kh:=[0,8,168]) (q:=True/\True/\True) (st':=ASt.mk [(2,.ptr 0 []),(3,.ptr 8 []),(5,.ptr 168 []),(45,bv false)] [(0,.cells 25 (cRun r)),(8,.cells 56 (cTrth t)),(168,.cells 62 (cTld (toldOf r)))] 208) (by kernel_rfl) ⟨tv,tv,tv⟩ ?_
  refine swp_cond false (by kernel_rfl) (fun h=>by cases h) (fun _ => ?_)
  refine swp_skip (swp_seq ?_)
  refine sR (kt:=[2,3,5,7,8]) (kh:=[0,8,168]) (q:=True/\True/\True) (st':=ASt.mk [(2,.ptr 0 []),(3,.ptr 8 []),(5,.ptr 168 []),(7,iv 0),(8,iv 0)] [(0,.cells 25 (cRun r)),(8,.cells 56 (cTrth t)),(168,.cells 62 (cTld (toldOf r)))] 224) (by kernel_rfl) ⟨tv,tv,tv⟩ ?_
  refine swp_seq ?_
  refine sR (kt:=[2,3,5,7,8,9]) (kh:=[0,8,168,240]) (q:=True/\True/\(r.plates=r.plates/\0<=r.plates/\r.plates<=65536)/\True/\True) (st':=ASt.mk [(2,.ptr 0 []),(3,.ptr 8 []),(5,.ptr 168 []),(7,iv 0),(8,iv 0),(9,.vec 240)] [(0,.cells 25 (cRun r)),(8,.cells 56 (cTrth t)),(168,.cells 62 (cTld (toldOf r))),(240,.vec 3 1 r.plates.toNat fun (x:Nat)=>[iv 0])] 256) (by kernel_rfl) ⟨tv,tv,⟨rfl,(o5 hp h17),(o6 hp h17)⟩,tv,tv⟩ ?_
  refine swp_seq (swp_seq ?_)
  refine sR (kt:=[2,3,5,7,8,9,10]) (kh:=[0,8,168,240]) (q:=True/\True) (st':=ASt.mk [(2,.ptr 0 []),(3,.ptr 8 []),(5,.ptr 168 []),(7,iv 0),(8,iv 0),(9,.vec 240),(10,iv 0)] [(0,.cells 25 (cRun r)),(8,.cells 56 (cTrth t)),(168,.cells 62 (cTld (toldOf r))),(240,.vec 3 1 r.plates.toNat fun (x:Nat)=>[iv 0])] 264) (by kernel_rfl) ⟨tv,tv⟩ ?_
  refine swp_block ?_
  refine swp_loopA (Hint.ann (h12a r t) [(2,AV.ptr 0 []),(3,AV.ptr 8 []),(5,AV.ptr 168 [])] [(0,OB.cells 25 (cRun r)),(8,OB.cells 56 (cTrth t)),(168,OB.cells 62 (cTld (toldOf r)))] 10264) (ent_q hE [] [(0,.same 0),(8,.same 8),(168,.same 168),(5000,.same 240)] [] [0,8,168] (((some (Src.same 0)=some (Src.same 0)/\nilP = [])/\(some (Src.same 8)=some (Src.same 8)/\nilP = [])/\(some (Src.same 168)=some (Src.same 168)/\nilP = [])/\(iv 0=iv (mixN r t 0)/\nilN = [])/\(iv 0=iv (↑(usedTo t.frm 0):Int)/\nilN = [])/\(iv 0=iv (↑0:Int)/\nilN = [])/\some (Src.same 240)=some (Src.same 240)/\True)/\((OB.cells 25 (cRun r)=OB.cells 25 (cRun r)/\true=true)/\(OB.cells 56 (cTrth t)=OB.cells 56 (cTrth t)/\true=true)/\(OB.cells 62 (cTld (toldOf r))=OB.cells 62 (cTld (toldOf r))/\true=true)/\(3=3/\1=1/\r.plates.toNat=r.plates.toNat /\ ∀ (i21:Nat),i21 < r.plates.toNat -> [iv 0] = [iv (oldN r t i21 0)])/\True)/\T2) (by kernel_rfl) (by kernel_rfl) ⟨⟨⟨rfl,rfl⟩,⟨rfl,rfl⟩,⟨rfl,rfl⟩,⟨(congrArg iv (o7 hp h17)),rfl⟩,⟨(congrArg iv (o8 hp h17)),rfl⟩,⟨(congrArg iv (o9 hp h17)),rfl⟩,rfl,tv⟩,⟨⟨rfl,rfl⟩,⟨rfl,rfl⟩,⟨rfl,rfl⟩,⟨rfl,rfl,rfl,(fun i21=>(fun h22=>(o10 hp h17 i21 h22)))⟩,tv⟩,rfl,rfl⟩) (o11 hp h17) (fun (x20:Nat) hx20 => ?_)
  refine swp_seq (swp_seq ?_)
  refine sR (kt:=[2,3,5,7,8,10,9,53]) (kh:=[0,8,168,5000]) (q:=True/\True/\True/\True/\True/\True) (st':=ASt.mk [(2,.ptr 0 []),(3,.ptr 8 []),(5,.ptr 168 []),(7,iv (mixN r t x20)),(8,iv (↑(usedTo t.frm x20):Int)),(10,iv (x20:Int)),(9,.vec 5000),(53,bv (decide ((x20:Int) < (↑(r.machines.length):Int))))] [(0,.cells 25 (cRun r)),(8,.cells 56 (cTrth t)),(168,.cells 62 (cTld (toldOf r))),(5000,.vec 3 1 r.plates.toNat fun (p:Nat)=>[iv (oldN r t p x20)])] 10304) (by kernel_rfl) ⟨tv,tv,tv,tv,tv,tv⟩ ?_
  refine swp_cond (decide ((x20:Int) < (↑(r.machines.length):Int))) (by kernel_rfl) (fun h23 => ?_) (fun h23 => ?_)
  ·refine swp_skip (swp_seq (swp_block (swp_seq ?_)))
   refine sR (kt:=[2,3,5,7,8,10,9,11,12]) (kh:=[0,8,168,5000]) (q:=True/\True/\True/\(0<=(x20:Int)/\(x20:Int) < (↑(t.minutes.length):Int))/\True/\(Int.ofNat 0<=Int.ofNat 0/\0 < (↑((t.minutes.getD x20 []).length):Int))/\True/\True/\True/\True/\(0<=(x20:Int)/\(x20:Int) < (↑(t.minutes.length):Int))/\True/\(Int.ofNat 0<=Int.ofNat 0/\0 < (↑((t.minutes.getD x20 []).length):Int))/\True/\True/\True/\True) (st':=ASt.mk [(2,.ptr 0 []),(3,.ptr 8 []),(5,.ptr 168 []),(7,iv (mixN r t x20)),(8,iv (↑(usedTo t.frm x20):Int)),(10,iv (x20:Int)),(9,.vec 5000),(11,iv ((t.minutes.getD x20 []).getD 0 0)),(12,iv ((t.minutes.getD x20 []).getD 0 0))] [(0,.cells 25 (cRun r)),(8,.cells 56 (cTrth t)),(168,.cells 62 (cTld (toldOf r))),(5000,.vec 3 1 r.plates.toNat fun (p:Nat)=>[iv (oldN r t p x20)])] 10432) (by kernel_rfl) ⟨tv,tv,tv,⟨(o12 hp h17 x20 hx20 h23),(o13 hp h17 x20 hx20 h23)⟩,tv,⟨(by decide),(o14 hp h17 x20 hx20 h23)⟩,tv,tv,tv,tv,⟨(o15 hp h17 x20 hx20 h23),(o16 hp h17 x20 hx20 h23)⟩,tv,⟨(by decide),(o17 hp h17 x20 hx20 h23)⟩,tv,tv,tv,tv⟩ ?_
   refine swp_seq (swp_seq ?_)
   refine sR (kt:=[2,3,5,7,8,10,9,11,12,13]) (kh:=[0,8,168,5000]) (q:=True/\True) (st':=ASt.mk [(2,.ptr 0 []),(3,.ptr 8 []),(5,.ptr 168 []),(7,iv (mixN r t x20)),(8,iv (↑(usedTo t.frm x20):Int)),(10,iv (x20:Int)),(9,.vec 5000),(11,iv ((t.minutes.getD x20 []).getD 0 0)),(12,iv ((t.minutes.getD x20 []).getD 0 0)),(13,iv 0)] [(0,.cells 25 (cRun r)),(8,.cells 56 (cTrth t)),(168,.cells 62 (cTld (toldOf r))),(5000,.vec 3 1 r.plates.toNat fun (p:Nat)=>[iv (oldN r t p x20)])] 10440) (by kernel_rfl) ⟨tv,tv⟩ ?_
   refine swp_block ?_
   refine swp_loopA (Hint.ann (h12b r t x20) [(2,AV.ptr 0 []),(3,AV.ptr 8 []),(5,AV.ptr 168 []),(7,iv (mixN r t x20)),(8,iv (↑(usedTo t.frm x20):Int)),(10,iv (x20:Int))] [(0,OB.cells 25 (cRun r)),(8,OB.cells 56 (cTrth t)),(168,OB.cells 62 (cTld (toldOf r)))] 20440) (ent_q hE [] [(0,.same 0),(8,.same 8),(168,.same 168),(5001,.same 5000)] [7,8,10] [0,8,168] (((some (Src.same 0)=some (Src.same 0)/\nilP = [])/\(some (Src.same 8)=some (Src.same 8)/\nilP = [])/\(some (Src.same 168)=some (Src.same 168)/\nilP = [])/\(iv (mixN r t x20)=iv (mixN r t x20)/\true=true)/\(iv (↑(usedTo t.frm x20):Int)=iv (↑(usedTo t.frm x20):Int)/\true=true)/\(iv (x20:Int)=iv (x20:Int)/\true=true)/\(iv ((t.minutes.getD x20 []).getD 0 0)=iv (firstN t x20 0)/\nilN = [])/\(iv ((t.minutes.getD x20 []).getD 0 0)=iv (lastN t x20 0)/\nilN = [])/\(iv 0=iv (↑0:Int)/\nilN = [])/\some (Src.same 5000)=some (Src.same 5000)/\True)/\((OB.cells 25 (cRun r)=OB.cells 25 (cRun r)/\true=true)/\(OB.cells 56 (cTrth t)=OB.cells 56 (cTrth t)/\true=true)/\(OB.cells 62 (cTld (toldOf r))=OB.cells 62 (cTld (toldOf r))/\true=true)/\(3=3/\1=1/\r.plates.toNat=r.plates.toNat /\ ∀ (i25:Nat),i25 < r.plates.toNat -> [iv (oldN r t i25 x20)] = [iv (oldAt r t x20 0 i25)])/\True)/\T2) (by kernel_rfl) (by kernel_rfl) ⟨⟨⟨rfl,rfl⟩,⟨rfl,rfl⟩,⟨rfl,rfl⟩,⟨rfl,rfl⟩,⟨rfl,rfl⟩,⟨rfl,rfl⟩,⟨(congrArg iv (o18 hp h17 x20 hx20 h23)),rfl⟩,⟨(congrArg iv (o19 hp h17 x20 hx20 h23)),rfl⟩,⟨(congrArg iv (o20 hp h17 x20 hx20 h23)),rfl⟩,rfl,tv⟩,⟨⟨rfl,rfl⟩,⟨rfl,rfl⟩,⟨rfl,rfl⟩,⟨rfl,rfl,rfl,(fun i25=>(fun h26=>(o21 hp h17 x20 hx20 h23 i25 h26)))⟩,tv⟩,rfl,rfl⟩) (o22 hp h17 x20 hx20 h23) (fun (x24:Nat) hx24 => ?_)
   refine swp_seq (swp_seq ?_)
   refine sR (kt:=[2,3,5,7,8,10,11,12,13,9,73]) (kh:=[0,8,168,5001]) (q:=True/\True/\True/\True/\True) (st':=ASt.mk [(2,.ptr 0 []),(3,.ptr 8 []),(5,.ptr 168 []),(7,iv (mixN r t x20)),(8,iv (↑(usedTo t.frm x20):Int)),(10,iv (x20:Int)),(11,iv (firstN t x20 x24)),(12,iv (lastN t x20 x24)),(13,iv (x24:Int)),(9,.vec 5001),(73,bv (decide ((x24:Int) < r.plates)))] [(0,.cells 25 (cRun r)),(8,.cells 56 (cTrth t)),(168,.cells 62 (cTld (toldOf r))),(5001,.vec 3 1 r.plates.toNat fun (q:Nat)=>[iv (oldAt r t x20 x24 q)])] 20472) (by kernel_rfl) ⟨tv,tv,tv,tv,tv⟩ ?_
   refine swp_cond (decide ((x24:Int) < r.plates)) (by kernel_rfl) (fun h27 => ?_) (fun h27 => ?_)
   ·refine swp_skip (swp_seq (swp_block (swp_seq ?_)))
    refine sR (kt:=[2,3,5,7,8,10,11,12,13,9,14]) (kh:=[0,8,168,5001]) (q:=True/\True/\True/\(0<=(x20:Int)/\(x20:Int) < (↑(t.minutes.length):Int))/\True/\True/\(0<=(x24:Int)/\(x24:Int) < (↑((t.minutes.getD x20 []).length):Int))/\True/\True/\True) (st':=ASt.mk [(2,.ptr 0 []),(3,.ptr 8 []),(5,.ptr 168 []),(7,iv (mixN r t x20)),(8,iv (↑(usedTo t.frm x20):Int)),(10,iv (x20:Int)),(11,iv (firstN t x20 x24)),(12,iv (lastN t x20 x24)),(13,iv (x24:Int)),(9,.vec 5001),(14,iv ((t.minutes.getD x20 []).getD x24 0))] [(0,.cells 25 (cRun r)),(8,.cells 56 (cTrth t)),(168,.cells 62 (cTld (toldOf r))),(5001,.vec 3 1 r.plates.toNat fun (q:Nat)=>[iv (oldAt r t x20 x24 q)])] 20544) (by kernel_rfl) ⟨tv,tv,tv,⟨(o23 hp h17 x20 hx20 h23 x24 hx24 h27),(o24 hp h17 x20 hx20 h23 x24 hx24 h27)⟩,tv,tv,⟨(o25 hp h17 x20 hx20 h23 x24 hx24 h27),(o26 hp h17 x20 hx20 h23 x24 hx24 h27)⟩,tv,tv,tv⟩ ?_
    refine swp_seq (swp_seq ?_)
    refine swp_region T0_ok mixed (cs:=[(11,CallSpec.eq (s43 ((Tld.when (toldOf r)).getD ((x20:Int) * r.plates + (x24:Int)).toNat default) ((t.minutes.getD x20 []).getD x24 0)) [true,true])]) (kt:=[2,3,5,7,8,10,11,12,13,9,14,96]) (kh:=[0,8,168,5001]) (q:=True/\True/\True/\True/\True/\inI ((x20:Int) * r.plates)/\True/\inI ((x20:Int) * r.plates + (x24:Int))/\(0<=(x20:Int) * r.plates + (x24:Int)/\(x20:Int) * r.plates + (x24:Int) < (↑((Tld.when (toldOf r)).length):Int))/\True/\True/\((AV.agg (cSpan ((Tld.when (toldOf r)).getD ((x20:Int) * r.plates + (x24:Int)).toNat default))=AV.agg (cSpan ((Tld.when (toldOf r)).getD ((x20:Int) * r.plates + (x24:Int)).toNat default))/\iv ((t.minutes.getD x20 []).getD x24 0)=iv ((t.minutes.getD x20 []).getD x24 0)/\True)/\Triple Try.prog 43 (s43 ((Tld.when (toldOf r)).getD ((x20:Int) * r.plates + (x24:Int)).toNat default) ((t.minutes.getD x20 []).getD x24 0))/\True/\True /\ ∀ (i28:Env),True)/\True/\True) (st':=ASt.mk [(2,.ptr 0 []),(3,.ptr 8 []),(5,.ptr 168 []),(7,iv (mixN r t x20)),(8,iv (↑(usedTo t.frm x20):Int)),(10,iv (x20:Int)),(11,iv (firstN t x20 x24)),(12,iv (lastN t x20 x24)),(13,iv (x24:Int)),(9,.vec 5001),(14,iv ((t.minutes.getD x20 []).getD x24 0)),(96,bv !has ((Tld.when (toldOf r)).getD ((x20:Int) * r.plates + (x24:Int)).toNat default) ((t.minutes.getD x20 []).getD x24 0))] [(0,.cells 25 (cRun r)),(8,.cells 56 (cTrth t)),(168,.cells 62 (cTld (toldOf r))),(5001,.vec 3 1 r.plates.toNat fun (q:Nat)=>[iv (oldAt r t x20 x24 q)])] 20648) (by kernel_rfl) ⟨tv,tv,tv,tv,tv,(o27 hp h17 x20 hx20 h23 x24 hx24 h27),tv,(o28 hp h17 x20 hx20 h23 x24 hx24 h27),⟨(o29 hp h17 x20 hx20 h23 x24 hx24 h27),(o30 hp h17 x20 hx20 h23 x24 hx24 h27)⟩,tv,tv,⟨⟨rfl,rfl,tv⟩,(t43 ((Tld.when (toldOf r)).getD ((x20:Int) * r.plates + (x24:Int)).toNat default) ((t.minutes.getD x20 []).getD x24 0)),tv,tv,(fun i28=>tv)⟩,tv,tv⟩ ?_
    refine swp_cond (!has ((Tld.when (toldOf r)).getD ((x20:Int) * r.plates + (x24:Int)).toNat default) ((t.minutes.getD x20 []).getD x24 0)) (by kernel_rfl) (fun h=>by cases (h.symm.trans (o31 hp h17 x20 hx20 h23 x24 hx24 h27))) (fun _ => ?_)
    refine swp_skip (swp_seq ?_)
    refine sR (kt:=[2,3,5,7,8,10,11,12,13,9,14]) (kh:=[0,8,168,5001]) (q:=True/\True/\(0<=(x24:Int)/\(x24:Int) < (↑(r.plates.toNat):Int))/\(x24 < r.plates.toNat/\True)/\True/\True/\True/\(0<=(x20:Int)/\(x20:Int) < (↑(r.machines.length):Int))/\True/\True/\True/\inI ((mach r x20).rate * (t.minutes.getD x20 []).getD x24 0)/\inI (oldAt r t x20 x24 x24 + (mach r x20).rate * (t.minutes.getD x20 []).getD x24 0)/\(0<=(x24:Int)/\(x24:Int) < (↑(r.plates.toNat):Int))/\(x24 < r.plates.toNat/\True)/\True) (st':=ASt.mk [(2,.ptr 0 []),(3,.ptr 8 []),(5,.ptr 168 []),(7,iv (mixN r t x20)),(8,iv (↑(usedTo t.frm x20):Int)),(10,iv (x20:Int)),(11,iv (firstN t x20 x24)),(12,iv (lastN t x20 x24)),(13,iv (x24:Int)),(9,.vec 5001),(14,iv ((t.minutes.getD x20 []).getD x24 0))] [(0,.cells 25 (cRun r)),(8,.cells 56 (cTrth t)),(168,.cells 62 (cTld (toldOf r))),(5001,.vec 3 1 r.plates.toNat fun (j:Nat)=>Decidable.rec (fun (h:¬j=x24)=>[iv (oldAt r t x20 x24 j)]) (fun (h:j=x24)=>[iv (oldAt r t x20 x24 x24 + (mach r x20).rate * (t.minutes.getD x20 []).getD x24 0)] ++ []) (instDecidableEqNat j x24))] 20768) (by kernel_rfl) ⟨tv,tv,⟨(o32 hp h17 x20 hx20 h23 x24 hx24 h27),(o33 hp h17 x20 hx20 h23 x24 hx24 h27)⟩,⟨(o34 hp h17 x20 hx20 h23 x24 hx24 h27),tv⟩,tv,tv,tv,⟨(o35 hp h17 x20 hx20 h23 x24 hx24 h27),(o36 hp h17 x20 hx20 h23 x24 hx24 h27)⟩,tv,tv,tv,(o37 hp h17 x20 hx20 h23 x24 hx24 h27),(o38 hp h17 x20 hx20 h23 x24 hx24 h27),⟨(o39 hp h17 x20 hx20 h23 x24 hx24 h27),(o40 hp h17 x20 hx20 h23 x24 hx24 h27)⟩,⟨(o41 hp h17 x20 hx20 h23 x24 hx24 h27),tv⟩,tv⟩ ?_
    refine sR (kt:=[2,3,5,7,8,10,11,12,13,9]) (kh:=[0,8,168,5001]) (q:=True/\True/\True/\True/\True/\True/\True/\True/\True) (st':=ASt.mk [(2,.ptr 0 []),(3,.ptr 8 []),(5,.ptr 168 []),(7,iv (mixN r t x20)),(8,iv (↑(usedTo t.frm x20):Int)),(10,iv (x20:Int)),(11,iv (min (firstN t x20 x24) ((t.minutes.getD x20 []).getD x24 0))),(12,iv (max (lastN t x20 x24) ((t.minutes.getD x20 []).getD x24 0))),(13,iv (x24:Int)),(9,.vec 5001)] [(0,.cells 25 (cRun r)),(8,.cells 56 (cTrth t)),(168,.cells 62 (cTld (toldOf r))),(5001,.vec 3 1 r.plates.toNat fun (j:Nat)=>Decidable.rec (fun (h:¬j=x24)=>[iv (oldAt r t x20 x24 j)]) (fun (h:j=x24)=>[iv (oldAt r t x20 x24 x24 + (mach r x20).rate * (t.minutes.getD x20 []).getD x24 0)] ++ []) (instDecidableEqNat j x24))] 20832) (by kernel_rfl) ⟨tv,tv,tv,tv,tv,tv,tv,tv,tv⟩ ?_
    refine sR (kt:=[2,3,5,7,8,10,11,12,13,9]) (kh:=[0,8,168,5001]) (q:=True/\inI ((x24:Int) + 1)/\True/\True) (st':=ASt.mk [(2,.ptr 0 []),(3,.ptr 8 []),(5,.ptr 168 []),(7,iv (mixN r t x20)),(8,iv (↑(usedTo t.frm x20):Int)),(10,iv (x20:Int)),(11,iv (min (firstN t x20 x24) ((t.minutes.getD x20 []).getD x24 0))),(12,iv (max (lastN t x20 x24) ((t.minutes.getD x20 []).getD x24 0))),(13,iv ((x24:Int) + 1)),(9,.vec 5001)] [(0,.cells 25 (cRun r)),(8,.cells 56 (cTrth t)),(168,.cells 62 (cTld (toldOf r))),(5001,.vec 3 1 r.plates.toNat fun (j:Nat)=>Decidable.rec (fun (h:¬j=x24)=>[iv (oldAt r t x20 x24 j)]) (fun (h:j=x24)=>[iv (oldAt r t x20 x24 x24 + (mach r x20).rate * (t.minutes.getD x20 []).getD x24 0)] ++ []) (instDecidableEqNat j x24))] 20856) (by kernel_rfl) ⟨tv,(o42 hp h17 x20 hx20 h23 x24 hx24 h27),tv,tv⟩ ?_
    exact loop_next (Hint.ann (h12b r t x20) [(2,AV.ptr 0 []),(3,AV.ptr 8 []),(5,AV.ptr 168 []),(7,iv (mixN r t x20)),(8,iv (↑(usedTo t.frm x20):Int)),(10,iv (x20:Int))] [(0,OB.cells 25 (cRun r)),(8,OB.cells 56 (cTrth t)),(168,OB.cells 62 (cTld (toldOf r)))] 20440) x24 (ent_q hE [] [(0,.same 0),(8,.same 8),(168,.same 168),(5001,.same 5001)] [7,8,10] [0,8,168] (((some (Src.same 0)=some (Src.same 0)/\nilP = [])/\(some (Src.same 8)=some (Src.same 8)/\nilP = [])/\(some (Src.same 168)=some (Src.same 168)/\nilP = [])/\(iv (mixN r t x20)=iv (mixN r t x20)/\true=true)/\(iv (↑(usedTo t.frm x20):Int)=iv (↑(usedTo t.frm x20):Int)/\true=true)/\(iv (x20:Int)=iv (x20:Int)/\true=true)/\(iv (min (firstN t x20 x24) ((t.minutes.getD x20 []).getD x24 0))=iv (firstN t x20 (x24 + 1))/\nilN = [])/\(iv (max (lastN t x20 x24) ((t.minutes.getD x20 []).getD x24 0))=iv (lastN t x20 (x24 + 1))/\nilN = [])/\(iv ((x24:Int) + 1)=iv (↑(x24 + 1):Int)/\nilN = [])/\some (Src.same 5001)=some (Src.same 5001)/\True)/\((OB.cells 25 (cRun r)=OB.cells 25 (cRun r)/\true=true)/\(OB.cells 56 (cTrth t)=OB.cells 56 (cTrth t)/\true=true)/\(OB.cells 62 (cTld (toldOf r))=OB.cells 62 (cTld (toldOf r))/\true=true)/\(3=3/\1=1/\r.plates.toNat=r.plates.toNat /\ ∀ (i29:Nat),i29 < r.plates.toNat->Decidable.rec (fun (h:¬i29=x24)=>[iv (oldAt r t x20 x24 i29)]) (fun (h:i29=x24)=>[iv (oldAt r t x20 x24 x24 + (mach r x20).rate * (t.minutes.getD x20 []).getD x24 0)] ++ []) (instDecidableEqNat i29 x24) = [iv (oldAt r t x20 (x24 + 1) i29)])/\True)/\T2) (by kernel_rfl) (by kernel_rfl) ⟨⟨⟨rfl,rfl⟩,⟨rfl,rfl⟩,⟨rfl,rfl⟩,⟨rfl,rfl⟩,⟨rfl,rfl⟩,⟨rfl,rfl⟩,⟨(congrArg iv (o43 hp h17 x20 hx20 h23 x24 hx24 h27)),rfl⟩,⟨(congrArg iv (o44 hp h17 x20 hx20 h23 x24 hx24 h27)),rfl⟩,⟨(congrArg iv (o45 hp h17 x20 hx20 h23 x24 hx24 h27)),rfl⟩,rfl,tv⟩,⟨⟨rfl,rfl⟩,⟨rfl,rfl⟩,⟨rfl,rfl⟩,⟨rfl,rfl,rfl,(fun i29=>(fun h30=>(o46 hp h17 x20 hx20 h23 x24 hx24 h27 i29 h30)))⟩,tv⟩,rfl,rfl⟩) (o47 hp h17 x20 hx20 h23 x24 hx24 h27) (o48 hp h17 x20 hx20 h23 x24 hx24 h27)
   ·refine swp_exit (swp_seq ?_)
    refine sR (kt:=[2,3,5,7,8,10,11,12,9]) (kh:=[0,8,168,5001]) (q:=True/\True/\True/\True/\(0<=(x20:Int)/\(x20:Int) < (↑(r.machines.length):Int))/\True/\True/\True/\True/\inI (lastN t x20 x24 - firstN t x20 x24)/\inI ((mach r x20).rate * (lastN t x20 x24 - firstN t x20 x24))/\inI (mixN r t x20 + (mach r x20).rate * (lastN t x20 x24 - firstN t x20 x24))/\True/\True) (st':=ASt.mk [(2,.ptr 0 []),(3,.ptr 8 []),(5,.ptr 168 []),(7,iv (mixN r t x20 + (mach r x20).rate * (lastN t x20 x24 - firstN t x20 x24))),(8,iv (↑(usedTo t.frm x20):Int)),(10,iv (x20:Int)),(11,iv (firstN t x20 x24)),(12,iv (lastN t x20 x24)),(9,.vec 5001)] [(0,.cells 25 (cRun r)),(8,.cells 56 (cTrth t)),(168,.cells 62 (cTld (toldOf r))),(5001,.vec 3 1 r.plates.toNat fun (q:Nat)=>[iv (oldAt r t x20 x24 q)])] 20576) (by kernel_rfl) ⟨tv,tv,tv,tv,⟨(o49 hp h17 x20 hx20 h23 x24 hx24 h27),(o50 hp h17 x20 hx20 h23 x24 hx24 h27)⟩,tv,tv,tv,tv,(o51 hp h17 x20 hx20 h23 x24 hx24 h27),(o52 hp h17 x20 hx20 h23 x24 hx24 h27),(o53 hp h17 x20 hx20 h23 x24 hx24 h27),tv,tv⟩ ?_
    refine swp_seq (swp_seq ?_)
    refine sR (kt:=[2,3,5,7,8,10,9,152]) (kh:=[0,8,168,5001]) (q:=True/\True/\True/\(0<=(x20:Int)/\(x20:Int) < (↑((Tld.mixed (toldOf r)).length):Int))/\True/\True/\True/\(decide ((Tld.mixed (toldOf r)).getD x20 0=1)=true->(True/\True)/\True)/\(decide ((Tld.mixed (toldOf r)).getD x20 0=1)=true->(True/\True)/\True)/\(decide ((Tld.mixed (toldOf r)).getD x20 0=1)=true->((decide ((Tld.mixed (toldOf r)).getD x20 0=1)=true->decide ((Tld.mixed (toldOf r)).getD x20 0=1)=true)/\(decide ((Tld.mixed (toldOf r)).getD x20 0=1)=true->decide ((Tld.mixed (toldOf r)).getD x20 0=1)=true)/\True)/\True)/\((decide ((Tld.mixed (toldOf r)).getD x20 0=1)=true->decide ((Tld.mixed (toldOf r)).getD x20 0=1)=true)/\(decide ((Tld.mixed (toldOf r)).getD x20 0=1)=false->True))/\True/\((!bif decide ((Tld.mixed (toldOf r)).getD x20 0=1) then decide (firstN t x20 x24=lastN t x20 x24) else false)=true->(True/\True)/\True)/\((!bif decide ((Tld.mixed (toldOf r)).getD x20 0=1) then decide (firstN t x20 x24=lastN t x20 x24) else false)=true->(((!bif decide ((Tld.mixed (toldOf r)).getD x20 0=1) then decide (firstN t x20 x24=lastN t x20 x24) else false)=true->(!bif decide ((Tld.mixed (toldOf r)).getD x20 0=1) then decide (firstN t x20 x24=lastN t x20 x24) else false)=true)/\True)/\True)/\((!bif decide ((Tld.mixed (toldOf r)).getD x20 0=1) then decide (firstN t x20 x24=lastN t x20 x24) else false)=true->(True/\True)/\True)/\((!bif decide ((Tld.mixed (toldOf r)).getD x20 0=1) then decide (firstN t x20 x24=lastN t x20 x24) else false)=true->(((!bif decide ((Tld.mixed (toldOf r)).getD x20 0=1) then decide (firstN t x20 x24=lastN t x20 x24) else false)=true->(!bif decide ((Tld.mixed (toldOf r)).getD x20 0=1) then decide (firstN t x20 x24=lastN t x20 x24) else false)=true)/\((!bif decide ((Tld.mixed (toldOf r)).getD x20 0=1) then decide (firstN t x20 x24=lastN t x20 x24) else false)=true->(!bif decide ((Tld.mixed (toldOf r)).getD x20 0=1) then decide (firstN t x20 x24=lastN t x20 x24) else false)=true)/\True)/\0<=(x20:Int)/\(x20:Int) < (↑((Tld.mixed (toldOf r)).length):Int))/\((!bif decide ((Tld.mixed (toldOf r)).getD x20 0=1) then decide (firstN t x20 x24=lastN t x20 x24) else false)=true->(((!bif decide ((Tld.mixed (toldOf r)).getD x20 0=1) then decide (firstN t x20 x24=lastN t x20 x24) else false)=true->(!bif decide ((Tld.mixed (toldOf r)).getD x20 0=1) then decide (firstN t x20 x24=lastN t x20 x24) else false)=true)/\True)/\True)/\((!bif decide ((Tld.mixed (toldOf r)).getD x20 0=1) then decide (firstN t x20 x24=lastN t x20 x24) else false)=true->(((!bif decide ((Tld.mixed (toldOf r)).getD x20 0=1) then decide (firstN t x20 x24=lastN t x20 x24) else false)=true->(!bif decide ((Tld.mixed (toldOf r)).getD x20 0=1) then decide (firstN t x20 x24=lastN t x20 x24) else false)=true)/\True/\True)/\True)/\((!bif decide ((Tld.mixed (toldOf r)).getD x20 0=1) then decide (firstN t x20 x24=lastN t x20 x24) else false)=true->(((!bif decide ((Tld.mixed (toldOf r)).getD x20 0=1) then decide (firstN t x20 x24=lastN t x20 x24) else false)=true->(!bif decide ((Tld.mixed (toldOf r)).getD x20 0=1) then decide (firstN t x20 x24=lastN t x20 x24) else false)=true)/\True)/\True)/\(((!bif decide ((Tld.mixed (toldOf r)).getD x20 0=1) then decide (firstN t x20 x24=lastN t x20 x24) else false) && decide ((Tld.mixed (toldOf r)).getD x20 0=2))=true->(True/\True)/\True)/\(((!bif decide ((Tld.mixed (toldOf r)).getD x20 0=1) then decide (firstN t x20 x24=lastN t x20 x24) else false) && decide ((Tld.mixed (toldOf r)).getD x20 0=2))=true->(True/\True)/\True)/\(((!bif decide ((Tld.mixed (toldOf r)).getD x20 0=1) then decide (firstN t x20 x24=lastN t x20 x24) else false) && decide ((Tld.mixed (toldOf r)).getD x20 0=2))=true->((((!bif decide ((Tld.mixed (toldOf r)).getD x20 0=1) then decide (firstN t x20 x24=lastN t x20 x24) else false) && decide ((Tld.mixed (toldOf r)).getD x20 0=2))=true->((!bif decide ((Tld.mixed (toldOf r)).getD x20 0=1) then decide (firstN t x20 x24=lastN t x20 x24) else false) && decide ((Tld.mixed (toldOf r)).getD x20 0=2))=true)/\(((!bif decide ((Tld.mixed (toldOf r)).getD x20 0=1) then decide (firstN t x20 x24=lastN t x20 x24) else false) && decide ((Tld.mixed (toldOf r)).getD x20 0=2))=true->((!bif decide ((Tld.mixed (toldOf r)).getD x20 0=1) then decide (firstN t x20 x24=lastN t x20 x24) else false) && decide ((Tld.mixed (toldOf r)).getD x20 0=2))=true)/\True)/\True)/\((!bif decide ((Tld.mixed (toldOf r)).getD x20 0=1) then decide (firstN t x20 x24=lastN t x20 x24) else false)=true->(((!bif decide ((Tld.mixed (toldOf r)).getD x20 0=1) then decide (firstN t x20 x24=lastN t x20 x24) else false)=true->(!bif decide ((Tld.mixed (toldOf r)).getD x20 0=1) then decide (firstN t x20 x24=lastN t x20 x24) else false)=true)/\True)/\(decide ((Tld.mixed (toldOf r)).getD x20 0=2)=true->((!bif decide ((Tld.mixed (toldOf r)).getD x20 0=1) then decide (firstN t x20 x24=lastN t x20 x24) else false) && decide ((Tld.mixed (toldOf r)).getD x20 0=2))=true)/\(decide ((Tld.mixed (toldOf r)).getD x20 0=2)=false->True))/\(((bif decide ((Tld.mixed (toldOf r)).getD x20 0=1) then decide (firstN t x20 x24=lastN t x20 x24) else false)=true->True)/\((bif decide ((Tld.mixed (toldOf r)).getD x20 0=1) then decide (firstN t x20 x24=lastN t x20 x24) else false)=false->(!bif decide ((Tld.mixed (toldOf r)).getD x20 0=1) then decide (firstN t x20 x24=lastN t x20 x24) else false)=true))/\True) (st':=ASt.mk [(2,.ptr 0 []),(3,.ptr 8 []),(5,.ptr 168 []),(7,iv (mixN r t x20 + (mach r x20).rate * (lastN t x20 x24 - firstN t x20 x24))),(8,iv (↑(usedTo t.frm x20):Int)),(10,iv (x20:Int)),(9,.vec 5001),(152,bv (bif bif decide ((Tld.mixed (toldOf r)).getD x20 0=1) then decide (firstN t x20 x24=lastN t x20 x24) else false then true else bif decide ((Tld.mixed (toldOf r)).getD x20 0=2) then decide (firstN t x20 x24 < lastN t x20 x24) else false))] [(0,.cells 25 (cRun r)),(8,.cells 56 (cTrth t)),(168,.cells 62 (cTld (toldOf r))),(5001,.vec 3 1 r.plates.toNat fun (q:Nat)=>[iv (oldAt r t x20 x24 q)])] 20768) (by kernel_rfl) ⟨tv,tv,tv,⟨(o54 hp h17 x20 hx20 h23 x24 hx24 h27),(o55 hp h17 x20 hx20 h23 x24 hx24 h27)⟩,tv,tv,tv,(fun h31=>⟨⟨tv,tv⟩,tv⟩),(fun h32=>⟨⟨tv,tv⟩,tv⟩),(fun h33=>⟨⟨(fun h34=>h33),(fun h35=>h33),tv⟩,tv⟩),⟨(fun h36=>h36),(fun h37=>tv)⟩,tv,(fun h38=>⟨⟨tv,tv⟩,tv⟩),(fun h39=>⟨⟨(fun h40=>h39),tv⟩,tv⟩),(fun h41=>⟨⟨tv,tv⟩,tv⟩),(fun h42=>⟨⟨(fun h43=>h42),(fun h44=>h42),tv⟩,(o56 hp h17 x20 hx20 h23 x24 hx24 h27 h42),(o57 hp h17 x20 hx20 h23 x24 hx24 h27 h42)⟩),(fun h45=>⟨⟨(fun h46=>h45),tv⟩,tv⟩),(fun h47=>⟨⟨(fun h48=>h47),tv,tv⟩,tv⟩),(fun h49=>⟨⟨(fun h50=>h49),tv⟩,tv⟩),(fun h51=>⟨⟨tv,tv⟩,tv⟩),(fun h52=>⟨⟨tv,tv⟩,tv⟩),(fun h53=>⟨⟨(fun h54=>h53),(fun h55=>h53),tv⟩,tv⟩),(fun h56=>⟨⟨(fun h57=>h56),tv⟩,(fun h58=>(o58 hp h17 x20 hx20 h23 x24 hx24 h27 h56 h58)),(fun h59=>tv)⟩),⟨(fun h60=>tv),(fun h61=>(o59 hp h17 x20 hx20 h23 x24 hx24 h27 h61))⟩,tv⟩ ?_
    refine swp_cond (bif bif decide ((Tld.mixed (toldOf r)).getD x20 0=1) then decide (firstN t x20 x24=lastN t x20 x24) else false then true else bif decide ((Tld.mixed (toldOf r)).getD x20 0=2) then decide (firstN t x20 x24 < lastN t x20 x24) else false) (by kernel_rfl) (fun h=>by cases (h.symm.trans (o60 hp h17 x20 hx20 h23 x24 hx24 h27))) (fun _ => ?_)
    refine swp_skip (swp_seq ?_)
    refine swp_region T0_ok mixed (cs:=[(3,CallSpec.eq (s51 t.frm (x20:Int)) [true,true])]) (kt:=[2,3,5,7,8,10,9,156]) (kh:=[0,8,168,5001]) (q:=True/\True/\True/\((aInts t.frm=aInts t.frm/\iv (x20:Int)=iv (x20:Int)/\True)/\Triple Try.prog 51 (s51 t.frm (x20:Int))/\t.frm.length<=1125899906842624/\True /\ ∀ (i62:Env),True)/\True) (st':=ASt.mk [(2,.ptr 0 []),(3,.ptr 8 []),(5,.ptr 168 []),(7,iv (mixN r t x20 + (mach r x20).rate * (lastN t x20 x24 - firstN t x20 x24))),(8,iv (↑(usedTo t.frm x20):Int)),(10,iv (x20:Int)),(9,.vec 5001),(156,bv (isIn t.frm (x20:Int)))] [(0,.cells 25 (cRun r)),(8,.cells 56 (cTrth t)),(168,.cells 62 (cTld (toldOf r))),(5001,.vec 3 1 r.plates.toNat fun (q:Nat)=>[iv (oldAt r t x20 x24 q)])] 20800) (by kernel_rfl) ⟨tv,tv,tv,⟨⟨rfl,rfl,tv⟩,(t51 t.frm ((x20:Int))),(o61 hp h17 x20 hx20 h23 x24 hx24 h27),tv,(fun i62=>tv)⟩,tv⟩ ?_
    refine swp_cond (isIn t.frm (x20:Int)) (by kernel_rfl) (fun h63 => ?_) (fun h63 => ?_)
    ·refine sR (kt:=[2,3,5,7,8,10,9]) (kh:=[0,8,168,5001]) (q:=True/\inI ((↑(usedTo t.frm x20):Int) + 1)/\True/\True) (st':=ASt.mk [(2,.ptr 0 []),(3,.ptr 8 []),(5,.ptr 168 []),(7,iv (mixN r t x20 + (mach r x20).rate * (lastN t x20 x24 - firstN t x20 x24))),(8,iv ((↑(usedTo t.frm x20):Int) + 1)),(10,iv (x20:Int)),(9,.vec 5001)] [(0,.cells 25 (cRun r)),(8,.cells 56 (cTrth t)),(168,.cells 62 (cTld (toldOf r))),(5001,.vec 3 1 r.plates.toNat fun (q:Nat)=>[iv (oldAt r t x20 x24 q)])] 20824) (by kernel_rfl) ⟨tv,(o62 hp h17 x20 hx20 h23 x24 hx24 h27 h63),tv,tv⟩ ?_
     refine sR (kt:=[2,3,5,7,8,10,9]) (kh:=[0,8,168,5001]) (q:=True/\inI ((x20:Int) + 1)/\True/\True) (st':=ASt.mk [(2,.ptr 0 []),(3,.ptr 8 []),(5,.ptr 168 []),(7,iv (mixN r t x20 + (mach r x20).rate * (lastN t x20 x24 - firstN t x20 x24))),(8,iv ((↑(usedTo t.frm x20):Int) + 1)),(10,iv ((x20:Int) + 1)),(9,.vec 5001)] [(0,.cells 25 (cRun r)),(8,.cells 56 (cTrth t)),(168,.cells 62 (cTld (toldOf r))),(5001,.vec 3 1 r.plates.toNat fun (q:Nat)=>[iv (oldAt r t x20 x24 q)])] 20848) (by kernel_rfl) ⟨tv,(o63 hp h17 x20 hx20 h23 x24 hx24 h27 h63),tv,tv⟩ ?_
     exact loop_next (Hint.ann (h12a r t) [(2,AV.ptr 0 []),(3,AV.ptr 8 []),(5,AV.ptr 168 [])] [(0,OB.cells 25 (cRun r)),(8,OB.cells 56 (cTrth t)),(168,OB.cells 62 (cTld (toldOf r)))] 10264) x20 (ent_q hE [] [(0,.same 0),(8,.same 8),(168,.same 168),(5000,.same 5001)] [] [0,8,168] (((some (Src.same 0)=some (Src.same 0)/\nilP = [])/\(some (Src.same 8)=some (Src.same 8)/\nilP = [])/\(some (Src.same 168)=some (Src.same 168)/\nilP = [])/\(iv (mixN r t x20 + (mach r x20).rate * (lastN t x20 x24 - firstN t x20 x24))=iv (mixN r t (x20 + 1))/\nilN = [])/\(iv ((↑(usedTo t.frm x20):Int) + 1)=iv (↑(usedTo t.frm (x20 + 1)):Int)/\nilN = [])/\(iv ((x20:Int) + 1)=iv (↑(x20 + 1):Int)/\nilN = [])/\some (Src.same 5001)=some (Src.same 5001)/\True)/\((OB.cells 25 (cRun r)=OB.cells 25 (cRun r)/\true=true)/\(OB.cells 56 (cTrth t)=OB.cells 56 (cTrth t)/\true=true)/\(OB.cells 62 (cTld (toldOf r))=OB.cells 62 (cTld (toldOf r))/\true=true)/\(3=3/\1=1/\r.plates.toNat=r.plates.toNat /\ ∀ (i64:Nat),i64 < r.plates.toNat -> [iv (oldAt r t x20 x24 i64)] = [iv (oldN r t i64 (x20 + 1))])/\True)/\T2) (by kernel_rfl) (by kernel_rfl) ⟨⟨⟨rfl,rfl⟩,⟨rfl,rfl⟩,⟨rfl,rfl⟩,⟨(congrArg iv (o64 hp h17 x20 hx20 h23 x24 hx24 h27 h63)),rfl⟩,⟨(congrArg iv (o65 hp h17 x20 hx20 h23 x24 hx24 h27 h63)),rfl⟩,⟨(congrArg iv (o66 hp h17 x20 hx20 h23 x24 hx24 h27 h63)),rfl⟩,rfl,tv⟩,⟨⟨rfl,rfl⟩,⟨rfl,rfl⟩,⟨rfl,rfl⟩,⟨rfl,rfl,rfl,(fun i64=>(fun h65=>(o67 hp h17 x20 hx20 h23 x24 hx24 h27 h63 i64 h65)))⟩,tv⟩,rfl,rfl⟩) (o68 hp h17 x20 hx20 h23 x24 hx24 h27 h63) (o69 hp h17 x20 hx20 h23 x24 hx24 h27 h63)
    ·refine swp_skip ?_
     refine sR (kt:=[2,3,5,7,8,10,9]) (kh:=[0,8,168,5001]) (q:=True/\inI ((x20:Int) + 1)/\True/\True) (st':=ASt.mk [(2,.ptr 0 []),(3,.ptr 8 []),(5,.ptr 168 []),(7,iv (mixN r t x20 + (mach r x20).rate * (lastN t x20 x24 - firstN t x20 x24))),(8,iv (↑(usedTo t.frm x20):Int)),(10,iv ((x20:Int) + 1)),(9,.vec 5001)] [(0,.cells 25 (cRun r)),(8,.cells 56 (cTrth t)),(168,.cells 62 (cTld (toldOf r))),(5001,.vec 3 1 r.plates.toNat fun (q:Nat)=>[iv (oldAt r t x20 x24 q)])] 20824) (by kernel_rfl) ⟨tv,(o70 hp h17 x20 hx20 h23 x24 hx24 h27 h63),tv,tv⟩ ?_
     exact loop_next (Hint.ann (h12a r t) [(2,AV.ptr 0 []),(3,AV.ptr 8 []),(5,AV.ptr 168 [])] [(0,OB.cells 25 (cRun r)),(8,OB.cells 56 (cTrth t)),(168,OB.cells 62 (cTld (toldOf r)))] 10264) x20 (ent_q hE [] [(0,.same 0),(8,.same 8),(168,.same 168),(5000,.same 5001)] [] [0,8,168] (((some (Src.same 0)=some (Src.same 0)/\nilP = [])/\(some (Src.same 8)=some (Src.same 8)/\nilP = [])/\(some (Src.same 168)=some (Src.same 168)/\nilP = [])/\(iv (mixN r t x20 + (mach r x20).rate * (lastN t x20 x24 - firstN t x20 x24))=iv (mixN r t (x20 + 1))/\nilN = [])/\(iv (↑(usedTo t.frm x20):Int)=iv (↑(usedTo t.frm (x20 + 1)):Int)/\nilN = [])/\(iv ((x20:Int) + 1)=iv (↑(x20 + 1):Int)/\nilN = [])/\some (Src.same 5001)=some (Src.same 5001)/\True)/\((OB.cells 25 (cRun r)=OB.cells 25 (cRun r)/\true=true)/\(OB.cells 56 (cTrth t)=OB.cells 56 (cTrth t)/\true=true)/\(OB.cells 62 (cTld (toldOf r))=OB.cells 62 (cTld (toldOf r))/\true=true)/\(3=3/\1=1/\r.plates.toNat=r.plates.toNat /\ ∀ (i66:Nat),i66 < r.plates.toNat -> [iv (oldAt r t x20 x24 i66)] = [iv (oldN r t i66 (x20 + 1))])/\True)/\T2) (by kernel_rfl) (by kernel_rfl) ⟨⟨⟨rfl,rfl⟩,⟨rfl,rfl⟩,⟨rfl,rfl⟩,⟨(congrArg iv (o71 hp h17 x20 hx20 h23 x24 hx24 h27 h63)),rfl⟩,⟨(congrArg iv (o72 hp h17 x20 hx20 h23 x24 hx24 h27 h63)),rfl⟩,⟨(congrArg iv (o73 hp h17 x20 hx20 h23 x24 hx24 h27 h63)),rfl⟩,rfl,tv⟩,⟨⟨rfl,rfl⟩,⟨rfl,rfl⟩,⟨rfl,rfl⟩,⟨rfl,rfl,rfl,(fun i66=>(fun h67=>(o74 hp h17 x20 hx20 h23 x24 hx24 h27 h63 i66 h67)))⟩,tv⟩,rfl,rfl⟩) (o75 hp h17 x20 hx20 h23 x24 hx24 h27 h63) (o76 hp h17 x20 hx20 h23 x24 hx24 h27 h63)
  ·refine swp_exit (swp_seq (swp_seq ?_))
   refine swp_region T0_ok mixed (cs:=[(3,CallSpec.eq (s43 (Tld.mixes (toldOf r)) (mixN r t x20)) [true,true])]) (kt:=[2,3,5,9,169]) (kh:=[0,8,168,5000]) (q:=True/\True/\True/\((AV.agg (cSpan (Tld.mixes (toldOf r)))=AV.agg (cSpan (Tld.mixes (toldOf r)))/\iv (mixN r t x20)=iv (mixN r t x20)/\True)/\Triple Try.prog 43 (s43 (Tld.mixes (toldOf r)) (mixN r t x20))/\True/\True /\ ∀ (i68:Env),True)/\True/\True/\((!!has (Tld.mixes (toldOf r)) (mixN r t x20))=true->(True/\True)/\True)/\((!!has (Tld.mixes (toldOf r)) (mixN r t x20))=true->(True/\True)/\True)/\((!!has (Tld.mixes (toldOf r)) (mixN r t x20))=true->(((!!has (Tld.mixes (toldOf r)) (mixN r t x20))=true->(!!has (Tld.mixes (toldOf r)) (mixN r t x20))=true)/\True)/\True)/\((!!has (Tld.mixes (toldOf r)) (mixN r t x20))=true->(((!!has (Tld.mixes (toldOf r)) (mixN r t x20))=true->(!!has (Tld.mixes (toldOf r)) (mixN r t x20))=true)/\((!!has (Tld.mixes (toldOf r)) (mixN r t x20))=true->(!!has (Tld.mixes (toldOf r)) (mixN r t x20))=true)/\True)/\True)/\(((!has (Tld.mixes (toldOf r)) (mixN r t x20))=true->True)/\((!has (Tld.mixes (toldOf r)) (mixN r t x20))=false->(!!has (Tld.mixes (toldOf r)) (mixN r t x20))=true))/\True) (st':=ASt.mk [(2,.ptr 0 []),(3,.ptr 8 []),(5,.ptr 168 []),(9,.vec 5000),(169,bv (bif !has (Tld.mixes (toldOf r)) (mixN r t x20) then true else decide ((↑(usedTo t.frm x20):Int) < Tld.fewest (toldOf r))))] [(0,.cells 25 (cRun r)),(8,.cells 56 (cTrth t)),(168,.cells 62 (cTld (toldOf r))),(5000,.vec 3 1 r.plates.toNat fun (p:Nat)=>[iv (oldN r t p x20)])] 10392) (by kernel_rfl) ⟨tv,tv,tv,⟨⟨rfl,rfl,tv⟩,(t43 (Tld.mixes (toldOf r)) (mixN r t x20)),tv,tv,(fun i68=>tv)⟩,tv,tv,(fun h69=>⟨⟨tv,tv⟩,tv⟩),(fun h70=>⟨⟨tv,tv⟩,tv⟩),(fun h71=>⟨⟨(fun h72=>h71),tv⟩,tv⟩),(fun h73=>⟨⟨(fun h74=>h73),(fun h75=>h73),tv⟩,tv⟩),⟨(fun h76=>tv),(fun h77=>(o77 hp h17 x20 hx20 h23 h77))⟩,tv⟩ ?_
   refine swp_cond (bif !has (Tld.mixes (toldOf r)) (mixN r t x20) then true else decide ((↑(usedTo t.frm x20):Int) < Tld.fewest (toldOf r))) (by kernel_rfl) (fun h=>by cases (h.symm.trans (o78 hp h17 x20 hx20 h23))) (fun _ => ?_)
   refine swp_skip (swp_seq (swp_seq ?_))
   refine sR (kt:=[2,3,5,9,15]) (kh:=[0,8,168,5000]) (q:=True/\True) (st':=ASt.mk [(2,.ptr 0 []),(3,.ptr 8 []),(5,.ptr 168 []),(9,.vec 5000),(15,iv 0)] [(0,.cells 25 (cRun r)),(8,.cells 56 (cTrth t)),(168,.cells 62 (cTld (toldOf r))),(5000,.vec 3 1 r.plates.toNat fun (p:Nat)=>[iv (oldN r t p x20)])] 10400) (by kernel_rfl) ⟨tv,tv⟩ ?_
   refine swp_block ?_
   refine swp_loopA (Hint.ann (h12c r t) [(2,AV.ptr 0 []),(3,AV.ptr 8 []),(5,AV.ptr 168 []),(9,AV.vec 5000)] [(0,OB.cells 25 (cRun r)),(8,OB.cells 56 (cTrth t)),(168,OB.cells 62 (cTld (toldOf r))),(5000,OB.vec 3 1 r.plates.toNat fun (p:Nat)=>[iv (oldN r t p x20)])] 20400) (ent_q hE [] [(0,.same 0),(8,.same 8),(168,.same 168),(5000,.same 5000)] [] [0,8,168,5000] (((some (Src.same 0)=some (Src.same 0)/\nilP = [])/\(some (Src.same 8)=some (Src.same 8)/\nilP = [])/\(some (Src.same 168)=some (Src.same 168)/\nilP = [])/\some (Src.same 5000)=some (Src.same 5000)/\(iv 0=iv (↑0:Int)/\nilN = [])/\True)/\((OB.cells 25 (cRun r)=OB.cells 25 (cRun r)/\true=true)/\(OB.cells 56 (cTrth t)=OB.cells 56 (cTrth t)/\true=true)/\(OB.cells 62 (cTld (toldOf r))=OB.cells 62 (cTld (toldOf r))/\true=true)/\(((OB.vec 3 1 r.plates.toNat fun (p:Nat)=>[iv (oldN r t p x20)])=OB.vec 3 1 r.plates.toNat fun (p:Nat)=>[iv (oldN r t p x20)])/\true=true)/\True)/\T2) (by kernel_rfl) (by kernel_rfl) ⟨⟨⟨rfl,rfl⟩,⟨rfl,rfl⟩,⟨rfl,rfl⟩,rfl,⟨(congrArg iv (o79 hp h17 x20 hx20 h23)),rfl⟩,tv⟩,⟨⟨rfl,rfl⟩,⟨rfl,rfl⟩,⟨rfl,rfl⟩,⟨rfl,rfl⟩,tv⟩,rfl,rfl⟩) (o80 hp h17 x20 hx20 h23) (fun (x78:Nat) hx78 => ?_)
   refine swp_seq (swp_seq ?_)
   refine sR (kt:=[2,3,5,9,15,173]) (kh:=[0,8,168,5000]) (q:=True/\True/\True/\True/\True) (st':=ASt.mk [(2,.ptr 0 []),(3,.ptr 8 []),(5,.ptr 168 []),(9,.vec 5000),(15,iv (x78:Int)),(173,bv (decide ((x78:Int) < r.plates)))] [(0,.cells 25 (cRun r)),(8,.cells 56 (cTrth t)),(168,.cells 62 (cTld (toldOf r))),(5000,.vec 3 1 r.plates.toNat fun (p:Nat)=>[iv (oldN r t p x20)])] 20432) (by kernel_rfl) ⟨tv,tv,tv,tv,tv⟩ ?_
   refine swp_cond (decide ((x78:Int) < r.plates)) (by kernel_rfl) (fun h79 => ?_) (fun h79 => ?_)
   ·refine swp_skip (swp_seq (swp_block (swp_seq ?_)))
    refine swp_region T0_ok mixed (cs:=[(9,CallSpec.eq (s43 ((Tld.old (toldOf r)).getD x78 default) (oldN r t x78 x20)) [true,true])]) (kt:=[2,3,5,9,15,186]) (kh:=[0,8,168,5000]) (q:=True/\True/\True/\(0<=(x78:Int)/\(x78:Int) < (↑((Tld.old (toldOf r)).length):Int))/\True/\True/\True/\(0<=(x78:Int)/\(x78:Int) < (↑(r.plates.toNat):Int))/\(x78 < r.plates.toNat/\True)/\((AV.agg (cSpan ((Tld.old (toldOf r)).getD x78 default))=AV.agg (cSpan ((Tld.old (toldOf r)).getD x78 default))/\iv (oldN r t x78 x20)=iv (oldN r t x78 x20)/\True)/\Triple Try.prog 43 (s43 ((Tld.old (toldOf r)).getD x78 default) (oldN r t x78 x20))/\True/\True /\ ∀ (i80:Env),True)/\True/\True) (st':=ASt.mk [(2,.ptr 0 []),(3,.ptr 8 []),(5,.ptr 168 []),(9,.vec 5000),(15,iv (x78:Int)),(186,bv !has ((Tld.old (toldOf r)).getD x78 default) (oldN r t x78 x20))] [(0,.cells 25 (cRun r)),(8,.cells 56 (cTrth t)),(168,.cells 62 (cTld (toldOf r))),(5000,.vec 3 1 r.plates.toNat fun (p:Nat)=>[iv (oldN r t p x20)])] 20520) (by kernel_rfl) ⟨tv,tv,tv,⟨(o81 hp h17 x20 hx20 h23 x78 hx78 h79),(o82 hp h17 x20 hx20 h23 x78 hx78 h79)⟩,tv,tv,tv,⟨(o83 hp h17 x20 hx20 h23 x78 hx78 h79),(o84 hp h17 x20 hx20 h23 x78 hx78 h79)⟩,⟨(o85 hp h17 x20 hx20 h23 x78 hx78 h79),tv⟩,⟨⟨rfl,rfl,tv⟩,(t43 ((Tld.old (toldOf r)).getD x78 default) (oldN r t x78 x20)),tv,tv,(fun i80=>tv)⟩,tv,tv⟩ ?_
    refine swp_cond (!has ((Tld.old (toldOf r)).getD x78 default) (oldN r t x78 x20)) (by kernel_rfl) (fun h=>by cases (h.symm.trans (o86 hp h17 x20 hx20 h23 x78 hx78 h79))) (fun _ => ?_)
    refine swp_skip ?_
    refine sR (kt:=[2,3,5,9,15]) (kh:=[0,8,168,5000]) (q:=True/\inI ((x78:Int) + 1)/\True/\True) (st':=ASt.mk [(2,.ptr 0 []),(3,.ptr 8 []),(5,.ptr 168 []),(9,.vec 5000),(15,iv ((x78:Int) + 1))] [(0,.cells 25 (cRun r)),(8,.cells 56 (cTrth t)),(168,.cells 62 (cTld (toldOf r))),(5000,.vec 3 1 r.plates.toNat fun (p:Nat)=>[iv (oldN r t p x20)])] 20544) (by kernel_rfl) ⟨tv,(o87 hp h17 x20 hx20 h23 x78 hx78 h79),tv,tv⟩ ?_
    exact loop_next (Hint.ann (h12c r t) [(2,AV.ptr 0 []),(3,AV.ptr 8 []),(5,AV.ptr 168 []),(9,AV.vec 5000)] [(0,OB.cells 25 (cRun r)),(8,OB.cells 56 (cTrth t)),(168,OB.cells 62 (cTld (toldOf r))),(5000,OB.vec 3 1 r.plates.toNat fun (p:Nat)=>[iv (oldN r t p x20)])] 20400) x78 (ent_q hE [] [(0,.same 0),(8,.same 8),(168,.same 168),(5000,.same 5000)] [] [0,8,168,5000] (((some (Src.same 0)=some (Src.same 0)/\nilP = [])/\(some (Src.same 8)=some (Src.same 8)/\nilP = [])/\(some (Src.same 168)=some (Src.same 168)/\nilP = [])/\some (Src.same 5000)=some (Src.same 5000)/\(iv ((x78:Int) + 1)=iv (↑(x78 + 1):Int)/\nilN = [])/\True)/\((OB.cells 25 (cRun r)=OB.cells 25 (cRun r)/\true=true)/\(OB.cells 56 (cTrth t)=OB.cells 56 (cTrth t)/\true=true)/\(OB.cells 62 (cTld (toldOf r))=OB.cells 62 (cTld (toldOf r))/\true=true)/\(((OB.vec 3 1 r.plates.toNat fun (p:Nat)=>[iv (oldN r t p x20)])=OB.vec 3 1 r.plates.toNat fun (p:Nat)=>[iv (oldN r t p x20)])/\true=true)/\True)/\T2) (by kernel_rfl) (by kernel_rfl) ⟨⟨⟨rfl,rfl⟩,⟨rfl,rfl⟩,⟨rfl,rfl⟩,rfl,⟨(congrArg iv (o88 hp h17 x20 hx20 h23 x78 hx78 h79)),rfl⟩,tv⟩,⟨⟨rfl,rfl⟩,⟨rfl,rfl⟩,⟨rfl,rfl⟩,⟨rfl,rfl⟩,tv⟩,rfl,rfl⟩) (o89 hp h17 x20 hx20 h23 x78 hx78 h79) (o90 hp h17 x20 hx20 h23 x78 hx78 h79)
   ·refine swp_exit (swp_seq (swp_seq ?_))
    refine sR (kt:=[2,3,5,16]) (kh:=[0,8,168]) (q:=True/\True) (st':=ASt.mk [(2,.ptr 0 []),(3,.ptr 8 []),(5,.ptr 168 []),(16,iv 0)] [(0,.cells 25 (cRun r)),(8,.cells 56 (cTrth t)),(168,.cells 62 (cTld (toldOf r)))] 20440) (by kernel_rfl) ⟨tv,tv⟩ ?_
    refine swp_block ?_
    refine swp_loopA (Hint.ann (h12d r t) [(2,AV.ptr 0 []),(3,AV.ptr 8 []),(5,AV.ptr 168 [])] [(0,OB.cells 25 (cRun r)),(8,OB.cells 56 (cTrth t)),(168,OB.cells 62 (cTld (toldOf r)))] 30440) (ent_q hE [] [(0,.same 0),(8,.same 8),(168,.same 168)] [] [0,8,168] (((some (Src.same 0)=some (Src.same 0)/\nilP = [])/\(some (Src.same 8)=some (Src.same 8)/\nilP = [])/\(some (Src.same 168)=some (Src.same 168)/\nilP = [])/\(iv 0=iv (↑0:Int)/\nilN = [])/\True)/\((OB.cells 25 (cRun r)=OB.cells 25 (cRun r)/\true=true)/\(OB.cells 56 (cTrth t)=OB.cells 56 (cTrth t)/\true=true)/\(OB.cells 62 (cTld (toldOf r))=OB.cells 62 (cTld (toldOf r))/\true=true)/\True)/\T2) (by kernel_rfl) (by kernel_rfl) ⟨⟨⟨rfl,rfl⟩,⟨rfl,rfl⟩,⟨rfl,rfl⟩,⟨(congrArg iv (o91 hp h17 x20 hx20 h23 x78 hx78 h79)),rfl⟩,tv⟩,⟨⟨rfl,rfl⟩,⟨rfl,rfl⟩,⟨rfl,rfl⟩,tv⟩,rfl,rfl⟩) (o92 hp h17 x20 hx20 h23 x78 hx78 h79) (fun (x81:Nat) hx81 => ?_)
    refine swp_seq (swp_seq ?_)
    refine sR (kt:=[2,3,5,16,191]) (kh:=[0,8,168]) (q:=True/\True/\True/\True/\True/\True) (st':=ASt.mk [(2,.ptr 0 []),(3,.ptr 8 []),(5,.ptr 168 []),(16,iv (x81:Int)),(191,bv (decide ((x81:Int) < (↑(t.frm.length):Int))))] [(0,.cells 25 (cRun r)),(8,.cells 56 (cTrth t)),(168,.cells 62 (cTld (toldOf r)))] 30480) (by kernel_rfl) ⟨tv,tv,tv,tv,tv,tv⟩ ?_
    refine swp_cond (decide ((x81:Int) < (↑(t.frm.length):Int))) (by kernel_rfl) (fun h82 => ?_) (fun h82 => ?_)
    ·refine swp_skip (swp_seq (swp_block (swp_seq (swp_seq ?_))))
     refine swp_region T0_ok mixed (cs:=[(10,CallSpec.eq (s51 ((Tld.whr (toldOf r)).getD x81 []) (t.frm.getD x81 0)) [true,true])]) (kt:=[2,3,5,16,205]) (kh:=[0,8,168]) (q:=True/\True/\True/\(0<=(x81:Int)/\(x81:Int) < (↑((Tld.whr (toldOf r)).length):Int))/\True/\True/\True/\True/\(0<=(x81:Int)/\(x81:Int) < (↑(t.frm.length):Int))/\True/\((aInts ((Tld.whr (toldOf r)).getD x81 [])=aInts ((Tld.whr (toldOf r)).getD x81 [])/\iv (t.frm.getD x81 0)=iv (t.frm.getD x81 0)/\True)/\Triple Try.prog 51 (s51 ((Tld.whr (toldOf r)).getD x81 []) (t.frm.getD x81 0))/\((Tld.whr (toldOf r)).getD x81 []).length<=1125899906842624/\True /\ ∀ (i83:Env),True)/\True/\True) (st':=ASt.mk [(2,.ptr 0 []),(3,.ptr 8 []),(5,.ptr 168 []),(16,iv (x81:Int)),(205,bv !isIn ((Tld.whr (toldOf r)).getD x81 []) (t.frm.getD x81 0))] [(0,.cells 25 (cRun r)),(8,.cells 56 (cTrth t)),(168,.cells 62 (cTld (toldOf r)))] 30576) (by kernel_rfl) ⟨tv,tv,tv,⟨(o93 hp h17 x20 hx20 h23 x78 hx78 h79 x81 hx81 h82),(o94 hp h17 x20 hx20 h23 x78 hx78 h79 x81 hx81 h82)⟩,tv,tv,tv,tv,⟨(o95 hp h17 x20 hx20 h23 x78 hx78 h79 x81 hx81 h82),(o96 hp h17 x20 hx20 h23 x78 hx78 h79 x81 hx81 h82)⟩,tv,⟨⟨rfl,rfl,tv⟩,(t51 ((Tld.whr (toldOf r)).getD x81 []) (t.frm.getD x81 0)),(o97 hp h17 x20 hx20 h23 x78 hx78 h79 x81 hx81 h82),tv,(fun i83=>tv)⟩,tv,tv⟩ ?_
     refine swp_cond (!isIn ((Tld.whr (toldOf r)).getD x81 []) (t.frm.getD x81 0)) (by kernel_rfl) (fun h=>by cases (h.symm.trans (o98 hp h17 x20 hx20 h23 x78 hx78 h79 x81 hx81 h82))) (fun _ => ?_)
     refine swp_skip (swp_seq (swp_seq ?_))
     refine sR (kt:=[2,3,5,16,17]) (kh:=[0,8,168]) (q:=True/\True) (st':=ASt.mk [(2,.ptr 0 []),(3,.ptr 8 []),(5,.ptr 168 []),(16,iv (x81:Int)),(17,iv 0)] [(0,.cells 25 (cRun r)),(8,.cells 56 (cTrth t)),(168,.cells 62 (cTld (toldOf r)))] 30584) (by kernel_rfl) ⟨tv,tv⟩ ?_
     refine swp_block ?_
     refine swp_loopA (Hint.ann (h12e r t x81) [(2,AV.ptr 0 []),(3,AV.ptr 8 []),(5,AV.ptr 168 []),(16,iv (x81:Int))] [(0,OB.cells 25 (cRun r)),(8,OB.cells 56 (cTrth t)),(168,OB.cells 62 (cTld (toldOf r)))] 40584) (ent_q hE [] [(0,.same 0),(8,.same 8),(168,.same 168)] [16] [0,8,168] (((some (Src.same 0)=some (Src.same 0)/\nilP = [])/\(some (Src.same 8)=some (Src.same 8)/\nilP = [])/\(some (Src.same 168)=some (Src.same 168)/\nilP = [])/\(iv (x81:Int)=iv (x81:Int)/\true=true)/\(iv 0=iv (↑0:Int)/\nilN = [])/\True)/\((OB.cells 25 (cRun r)=OB.cells 25 (cRun r)/\true=true)/\(OB.cells 56 (cTrth t)=OB.cells 56 (cTrth t)/\true=true)/\(OB.cells 62 (cTld (toldOf r))=OB.cells 62 (cTld (toldOf r))/\true=true)/\True)/\T2) (by kernel_rfl) (by kernel_rfl) ⟨⟨⟨rfl,rfl⟩,⟨rfl,rfl⟩,⟨rfl,rfl⟩,⟨rfl,rfl⟩,⟨(congrArg iv (o99 hp h17 x20 hx20 h23 x78 hx78 h79 x81 hx81 h82)),rfl⟩,tv⟩,⟨⟨rfl,rfl⟩,⟨rfl,rfl⟩,⟨rfl,rfl⟩,tv⟩,rfl,rfl⟩) (o100 hp h17 x20 hx20 h23 x78 hx78 h79 x81 hx81 h82) (fun (x84:Nat) hx84 => ?_)
     refine swp_seq (swp_seq ?_)
     refine sR (kt:=[2,3,5,16,17,210]) (kh:=[0,8,168]) (q:=True/\True/\True/\True/\True/\True) (st':=ASt.mk [(2,.ptr 0 []),(3,.ptr 8 []),(5,.ptr 168 []),(16,iv (x81:Int)),(17,iv (x84:Int)),(210,bv (decide ((x84:Int) < (↑(t.frm.length):Int))))] [(0,.cells 25 (cRun r)),(8,.cells 56 (cTrth t)),(168,.cells 62 (cTld (toldOf r)))] 40624) (by kernel_rfl) ⟨tv,tv,tv,tv,tv,tv⟩ ?_
     refine swp_cond (decide ((x84:Int) < (↑(t.frm.length):Int))) (by kernel_rfl) (fun h85 => ?_) (fun h85 => ?_)
     ·refine swp_skip (swp_seq (swp_block (swp_seq ?_)))
      refine swp_region T0_ok mixed (cs:=[(3,CallSpec.eq (s38 r (x81:Int) (x84:Int)) [true,true,true])]) (kt:=[2,3,5,16,17,18,19]) (kh:=[0,8,168]) (q:=True/\True/\True/\((AV.agg (cRun r)=AV.agg (cRun r)/\iv (x81:Int)=iv (x81:Int)/\iv (x84:Int)=iv (x84:Int)/\True)/\Triple Try.prog 38 (s38 r (x81:Int) (x84:Int))/\fits r/\True /\ ∀ (i86:Env),True)/\True/\True/\True/\True/\True/\True) (st':=ASt.mk [(2,.ptr 0 []),(3,.ptr 8 []),(5,.ptr 168 []),(16,iv (x81:Int)),(17,iv (x84:Int)),(18,iv (sameS r (x81:Int) (x84:Int))),(19,iv (openE r (sameIs r (x81:Int) (x84:Int))))] [(0,.cells 25 (cRun r)),(8,.cells 56 (cTrth t)),(168,.cells 62 (cTld (toldOf r)))] 40696) (by kernel_rfl) ⟨tv,tv,tv,⟨⟨rfl,rfl,rfl,tv⟩,(t38 (r) ((x81:Int)) ((x84:Int))),hp.1,tv,(fun i86=>tv)⟩,tv,tv,tv,tv,tv,tv⟩ ?_
      refine swp_seq ?_
      refine sR (kt:=[2,3,5,16,17,18,19,20]) (kh:=[0,8,168]) (q:=True/\True/\True/\(0<=(x81:Int)/\(x81:Int) < (↑(t.frm.length):Int))/\True/\True/\True/\True/\(0<=(x84:Int)/\(x84:Int) < (↑(t.frm.length):Int))/\True/\True/\True/\True) (st':=ASt.mk [(2,.ptr 0 []),(3,.ptr 8 []),(5,.ptr 168 []),(16,iv (x81:Int)),(17,iv (x84:Int)),(18,iv (sameS r (x81:Int) (x84:Int))),(19,iv (openE r (sameIs r (x81:Int) (x84:Int)))),(20,bv (decide (t.frm.getD x81 0=t.frm.getD x84 0)))] [(0,.cells 25 (cRun r)),(8,.cells 56 (cTrth t)),(168,.cells 62 (cTld (toldOf r)))] 40792) (by kernel_rfl) ⟨tv,tv,tv,⟨(o101 hp h17 x20 hx20 h23 x78 hx78 h79 x81 hx81 h82 x84 hx84 h85),(o102 hp h17 x20 hx20 h23 x78 hx78 h79 x81 hx81 h82 x84 hx84 h85)⟩,tv,tv,tv,tv,⟨(o103 hp h17 x20 hx20 h23 x78 hx78 h79 x81 hx81 h82 x84 hx84 h85),(o104 hp h17 x20 hx20 h23 x78 hx78 h79 x81 hx81 h82 x84 hx84 h85)⟩,tv,tv,tv,tv⟩ ?_
      refine swp_seq ?_
      refine swp_region T0_ok mixed (cs:=[(19,CallSpec.eq (s24 (sameS r (x81:Int) (x84:Int)) 1 3) [true,true,true])]) (kt:=[2,3,5,16,17,252]) (kh:=[0,8,168]) (q:=True/\True/\True/\((!!decide (openE r (sameIs r (x81:Int) (x84:Int))=0))->(True/\True)/\True)/\((!!decide (openE r (sameIs r (x81:Int) (x84:Int))=0))->(((!!decide (openE r (sameIs r (x81:Int) (x84:Int))=0))->(!!decide (openE r (sameIs r (x81:Int) (x84:Int))=0))=true)/\True/\True)/\True)/\((!!decide (openE r (sameIs r (x81:Int) (x84:Int))=0))->(((!!decide (openE r (sameIs r (x81:Int) (x84:Int))=0))->(!!decide (openE r (sameIs r (x81:Int) (x84:Int))=0))=true)/\True)/\True)/\((!!decide (openE r (sameIs r (x81:Int) (x84:Int))=0) && decide (sameS r (x81:Int) (x84:Int)=1))->(True/\True)/\True)/\((!!decide (openE r (sameIs r (x81:Int) (x84:Int))=0) && decide (sameS r (x81:Int) (x84:Int)=1))->(((!!decide (openE r (sameIs r (x81:Int) (x84:Int))=0) && decide (sameS r (x81:Int) (x84:Int)=1))->(!!decide (openE r (sameIs r (x81:Int) (x84:Int))=0) && decide (sameS r (x81:Int) (x84:Int)=1))=true)/\True)/\True)/\((!!decide (openE r (sameIs r (x81:Int) (x84:Int))=0))->(((!!decide (openE r (sameIs r (x81:Int) (x84:Int))=0))->(!!decide (openE r (sameIs r (x81:Int) (x84:Int))=0))=true)/\True)/\(decide (sameS r (x81:Int) (x84:Int)=1)=true->(!!decide (openE r (sameIs r (x81:Int) (x84:Int))=0) && decide (sameS r (x81:Int) (x84:Int)=1))=true)/\(decide (sameS r (x81:Int) (x84:Int)=1)=false->True))/\(((!decide (openE r (sameIs r (x81:Int) (x84:Int))=0))->True)/\((!decide (openE r (sameIs r (x81:Int) (x84:Int))=0))=false->(!!decide (openE r (sameIs r (x81:Int) (x84:Int))=0))=true))/\True/\((!bif !decide (openE r (sameIs r (x81:Int) (x84:Int))=0) then true else bif decide (sameS r (x81:Int) (x84:Int)=1) then !decide (t.frm.getD x81 0=t.frm.getD x84 0) else false)=true->(True/\True)/\True)/\((!bif !decide (openE r (sameIs r (x81:Int) (x84:Int))=0) then true else bif decide (sameS r (x81:Int) (x84:Int)=1) then !decide (t.frm.getD x81 0=t.frm.getD x84 0) else false)=true->(((!bif !decide (openE r (sameIs r (x81:Int) (x84:Int))=0) then true else bif decide (sameS r (x81:Int) (x84:Int)=1) then !decide (t.frm.getD x81 0=t.frm.getD x84 0) else false)=true->(!bif !decide (openE r (sameIs r (x81:Int) (x84:Int))=0) then true else bif decide (sameS r (x81:Int) (x84:Int)=1) then !decide (t.frm.getD x81 0=t.frm.getD x84 0) else false)=true)/\True/\True)/\True)/\((!bif !decide (openE r (sameIs r (x81:Int) (x84:Int))=0) then true else bif decide (sameS r (x81:Int) (x84:Int)=1) then !decide (t.frm.getD x81 0=t.frm.getD x84 0) else false)=true->(((!bif !decide (openE r (sameIs r (x81:Int) (x84:Int))=0) then true else bif decide (sameS r (x81:Int) (x84:Int)=1) then !decide (t.frm.getD x81 0=t.frm.getD x84 0) else false)=true->(!bif !decide (openE r (sameIs r (x81:Int) (x84:Int))=0) then true else bif decide (sameS r (x81:Int) (x84:Int)=1) then !decide (t.frm.getD x81 0=t.frm.getD x84 0) else false)=true)/\True)/\True)/\(((!bif !decide (openE r (sameIs r (x81:Int) (x84:Int))=0) then true else bif decide (sameS r (x81:Int) (x84:Int)=1) then !decide (t.frm.getD x81 0=t.frm.getD x84 0) else false) && decide (sameS r (x81:Int) (x84:Int)=2))=true->(True/\True)/\True)/\((!bif !decide (openE r (sameIs r (x81:Int) (x84:Int))=0) then true else bif decide (sameS r (x81:Int) (x84:Int)=1) then !decide (t.frm.getD x81 0=t.frm.getD x84 0) else false)=true->(((!bif !decide (openE r (sameIs r (x81:Int) (x84:Int))=0) then true else bif decide (sameS r (x81:Int) (x84:Int)=1) then !decide (t.frm.getD x81 0=t.frm.getD x84 0) else false)=true->(!bif !decide (openE r (sameIs r (x81:Int) (x84:Int))=0) then true else bif decide (sameS r (x81:Int) (x84:Int)=1) then !decide (t.frm.getD x81 0=t.frm.getD x84 0) else false)=true)/\True)/\(decide (sameS r (x81:Int) (x84:Int)=2)=true->((!bif !decide (openE r (sameIs r (x81:Int) (x84:Int))=0) then true else bif decide (sameS r (x81:Int) (x84:Int)=1) then !decide (t.frm.getD x81 0=t.frm.getD x84 0) else false) && decide (sameS r (x81:Int) (x84:Int)=2))=true)/\(decide (sameS r (x81:Int) (x84:Int)=2)=false->True))/\(((bif !decide (openE r (sameIs r (x81:Int) (x84:Int))=0) then true else bif decide (sameS r (x81:Int) (x84:Int)=1) then !decide (t.frm.getD x81 0=t.frm.getD x84 0) else false)=true->True)/\((bif !decide (openE r (sameIs r (x81:Int) (x84:Int))=0) then true else bif decide (sameS r (x81:Int) (x84:Int)=1) then !decide (t.frm.getD x81 0=t.frm.getD x84 0) else false)=false->(!bif !decide (openE r (sameIs r (x81:Int) (x84:Int))=0) then true else bif decide (sameS r (x81:Int) (x84:Int)=1) then !decide (t.frm.getD x81 0=t.frm.getD x84 0) else false)=true))/\True/\((!bif bif !decide (openE r (sameIs r (x81:Int) (x84:Int))=0) then true else bif decide (sameS r (x81:Int) (x84:Int)=1) then !decide (t.frm.getD x81 0=t.frm.getD x84 0) else false then true else bif decide (sameS r (x81:Int) (x84:Int)=2) then decide (t.frm.getD x81 0=t.frm.getD x84 0) else false)=true->(True/\True)/\True)/\((!bif bif !decide (openE r (sameIs r (x81:Int) (x84:Int))=0) then true else bif decide (sameS r (x81:Int) (x84:Int)=1) then !decide (t.frm.getD x81 0=t.frm.getD x84 0) else false then true else bif decide (sameS r (x81:Int) (x84:Int)=2) then decide (t.frm.getD x81 0=t.frm.getD x84 0) else false)=true->(True/\((!bif bif !decide (openE r (sameIs r (x81:Int) (x84:Int))=0) then true else bif decide (sameS r (x81:Int) (x84:Int)=1) then !decide (t.frm.getD x81 0=t.frm.getD x84 0) else false then true else bif decide (sameS r (x81:Int) (x84:Int)=2) then decide (t.frm.getD x81 0=t.frm.getD x84 0) else false)=true->(!bif bif !decide (openE r (sameIs r (x81:Int) (x84:Int))=0) then true else bif decide (sameS r (x81:Int) (x84:Int)=1) then !decide (t.frm.getD x81 0=t.frm.getD x84 0) else false then true else bif decide (sameS r (x81:Int) (x84:Int)=2) then decide (t.frm.getD x81 0=t.frm.getD x84 0) else false)=true)/\True/\True/\True)/\(iv (sameS r (x81:Int) (x84:Int))=iv (sameS r (x81:Int) (x84:Int))/\iv 1=iv 1/\iv 3=iv 3/\True)/\Triple Try.prog 24 (s24 (sameS r (x81:Int) (x84:Int)) 1 3)/\True/\True /\ ∀ (i116:Env),True)/\((!bif bif !decide (openE r (sameIs r (x81:Int) (x84:Int))=0) then true else bif decide (sameS r (x81:Int) (x84:Int)=1) then !decide (t.frm.getD x81 0=t.frm.getD x84 0) else false then true else bif decide (sameS r (x81:Int) (x84:Int)=2) then decide (t.frm.getD x81 0=t.frm.getD x84 0) else false)=true->(((!bif bif !decide (openE r (sameIs r (x81:Int) (x84:Int))=0) then true else bif decide (sameS r (x81:Int) (x84:Int)=1) then !decide (t.frm.getD x81 0=t.frm.getD x84 0) else false then true else bif decide (sameS r (x81:Int) (x84:Int)=2) then decide (t.frm.getD x81 0=t.frm.getD x84 0) else false)=true->(!bif bif !decide (openE r (sameIs r (x81:Int) (x84:Int))=0) then true else bif decide (sameS r (x81:Int) (x84:Int)=1) then !decide (t.frm.getD x81 0=t.frm.getD x84 0) else false then true else bif decide (sameS r (x81:Int) (x84:Int)=2) then decide (t.frm.getD x81 0=t.frm.getD x84 0) else false)=true)/\True)/\True)/\(((bif bif !decide (openE r (sameIs r (x81:Int) (x84:Int))=0) then true else bif decide (sameS r (x81:Int) (x84:Int)=1) then !decide (t.frm.getD x81 0=t.frm.getD x84 0) else false then true else bif decide (sameS r (x81:Int) (x84:Int)=2) then decide (t.frm.getD x81 0=t.frm.getD x84 0) else false)=true->True)/\((bif bif !decide (openE r (sameIs r (x81:Int) (x84:Int))=0) then true else bif decide (sameS r (x81:Int) (x84:Int)=1) then !decide (t.frm.getD x81 0=t.frm.getD x84 0) else false then true else bif decide (sameS r (x81:Int) (x84:Int)=2) then decide (t.frm.getD x81 0=t.frm.getD x84 0) else false)=false->(!bif bif !decide (openE r (sameIs r (x81:Int) (x84:Int))=0) then true else bif decide (sameS r (x81:Int) (x84:Int)=1) then !decide (t.frm.getD x81 0=t.frm.getD x84 0) else false then true else bif decide (sameS r (x81:Int) (x84:Int)=2) then decide (t.frm.getD x81 0=t.frm.getD x84 0) else false)=true))/\True) (st':=ASt.mk [(2,.ptr 0 []),(3,.ptr 8 []),(5,.ptr 168 []),(16,iv (x81:Int)),(17,iv (x84:Int)),(252,bv (bif bif bif !decide (openE r (sameIs r (x81:Int) (x84:Int))=0) then true else bif decide (sameS r (x81:Int) (x84:Int)=1) then !decide (t.frm.getD x81 0=t.frm.getD x84 0) else false then true else bif decide (sameS r (x81:Int) (x84:Int)=2) then decide (t.frm.getD x81 0=t.frm.getD x84 0) else false then true else !within (sameS r (x81:Int) (x84:Int)) 1 3))] [(0,.cells 25 (cRun r)),(8,.cells 56 (cTrth t)),(168,.cells 62 (cTld (toldOf r)))] 40968) (by kernel_rfl) ⟨tv,tv,tv,(fun h87=>⟨⟨tv,tv⟩,tv⟩),(fun h88=>⟨⟨(fun h89=>h88),tv,tv⟩,tv⟩),(fun h90=>⟨⟨(fun h91=>h90),tv⟩,tv⟩),(fun h92=>⟨⟨tv,tv⟩,tv⟩),(fun h93=>⟨⟨(fun h94=>h93),tv⟩,tv⟩),(fun h95=>⟨⟨(fun h96=>h95),tv⟩,(fun h97=>(o105 hp h17 x20 hx20 h23 x78 hx78 h79 x81 hx81 h82 x84 hx84 h85 h95 h97)),(fun h98=>tv)⟩),⟨(fun h99=>tv),(fun h100=>(o106 hp h17 x20 hx20 h23 x78 hx78 h79 x81 hx81 h82 x84 hx84 h85 h100))⟩,tv,(fun h101=>⟨⟨tv,tv⟩,tv⟩),(fun h102=>⟨⟨(fun h103=>h102),tv,tv⟩,tv⟩),(fun h104=>⟨⟨(fun h105=>h104),tv⟩,tv⟩),(fun h106=>⟨⟨tv,tv⟩,tv⟩),(fun h107=>⟨⟨(fun h108=>h107),tv⟩,(fun h109=>(o107 hp h17 x20 hx20 h23 x78 hx78 h79 x81 hx81 h82 x84 hx84 h85 h107 h109)),(fun h110=>tv)⟩),⟨(fun h111=>tv),(fun h112=>(o108 hp h17 x20 hx20 h23 x78 hx78 h79 x81 hx81 h82 x84 hx84 h85 h112))⟩,tv,(fun h113=>⟨⟨tv,tv⟩,tv⟩),(fun h114=>⟨⟨tv,(fun h115=>h114),tv,tv,tv⟩,⟨rfl,rfl,rfl,tv⟩,(t24 (sameS r (x81:Int) (x84:Int)) (1) (3)),tv,tv,(fun i116=>tv)⟩),(fun h117=>⟨⟨(fun h118=>h117),tv⟩,tv⟩),⟨(fun h119=>tv),(fun h120=>(o109 hp h17 x20 hx20 h23 x78 hx78 h79 x81 hx81 h82 x84 hx84 h85 h120))⟩,tv⟩ ?_
      refine swp_cond (bif bif bif !decide (openE r (sameIs r (x81:Int) (x84:Int))=0) then true else bif decide (sameS r (x81:Int) (x84:Int)=1) then !decide (t.frm.getD x81 0=t.frm.getD x84 0) else false then true else bif decide (sameS r (x81:Int) (x84:Int)=2) then decide (t.frm.getD x81 0=t.frm.getD x84 0) else false then true else !within (sameS r (x81:Int) (x84:Int)) 1 3) (by kernel_rfl) (fun h=>by cases (h.symm.trans (o110 hp h17 x20 hx20 h23 x78 hx78 h79 x81 hx81 h82 x84 hx84 h85))) (fun _ => ?_)
      refine swp_skip ?_
      refine sR (kt:=[2,3,5,16,17]) (kh:=[0,8,168]) (q:=True/\inI ((x84:Int) + 1)/\True/\True) (st':=ASt.mk [(2,.ptr 0 []),(3,.ptr 8 []),(5,.ptr 168 []),(16,iv (x81:Int)),(17,iv ((x84:Int) + 1))] [(0,.cells 25 (cRun r)),(8,.cells 56 (cTrth t)),(168,.cells 62 (cTld (toldOf r)))] 40992) (by kernel_rfl) ⟨tv,(o111 hp h17 x20 hx20 h23 x78 hx78 h79 x81 hx81 h82 x84 hx84 h85),tv,tv⟩ ?_
      exact loop_next (Hint.ann (h12e r t x81) [(2,AV.ptr 0 []),(3,AV.ptr 8 []),(5,AV.ptr 168 []),(16,iv (x81:Int))] [(0,OB.cells 25 (cRun r)),(8,OB.cells 56 (cTrth t)),(168,OB.cells 62 (cTld (toldOf r)))] 40584) x84 (ent_q hE [] [(0,.same 0),(8,.same 8),(168,.same 168)] [16] [0,8,168] (((some (Src.same 0)=some (Src.same 0)/\nilP = [])/\(some (Src.same 8)=some (Src.same 8)/\nilP = [])/\(some (Src.same 168)=some (Src.same 168)/\nilP = [])/\(iv (x81:Int)=iv (x81:Int)/\true=true)/\(iv ((x84:Int) + 1)=iv (↑(x84 + 1):Int)/\nilN = [])/\True)/\((OB.cells 25 (cRun r)=OB.cells 25 (cRun r)/\true=true)/\(OB.cells 56 (cTrth t)=OB.cells 56 (cTrth t)/\true=true)/\(OB.cells 62 (cTld (toldOf r))=OB.cells 62 (cTld (toldOf r))/\true=true)/\True)/\T2) (by kernel_rfl) (by kernel_rfl) ⟨⟨⟨rfl,rfl⟩,⟨rfl,rfl⟩,⟨rfl,rfl⟩,⟨rfl,rfl⟩,⟨(congrArg iv (o112 hp h17 x20 hx20 h23 x78 hx78 h79 x81 hx81 h82 x84 hx84 h85)),rfl⟩,tv⟩,⟨⟨rfl,rfl⟩,⟨rfl,rfl⟩,⟨rfl,rfl⟩,tv⟩,rfl,rfl⟩) (o113 hp h17 x20 hx20 h23 x78 hx78 h79 x81 hx81 h82 x84 hx84 h85) (o114 hp h17 x20 hx20 h23 x78 hx78 h79 x81 hx81 h82 x84 hx84 h85)
     ·refine swp_exit (swp_seq ?_)
      refine sR (kt:=[2,3,5,16,21]) (kh:=[0,8,168]) (q:=True/\True) (st':=ASt.mk [(2,.ptr 0 []),(3,.ptr 8 []),(5,.ptr 168 []),(16,iv (x81:Int)),(21,iv 0)] [(0,.cells 25 (cRun r)),(8,.cells 56 (cTrth t)),(168,.cells 62 (cTld (toldOf r)))] 40632) (by kernel_rfl) ⟨tv,tv⟩ ?_
      refine swp_block ?_
      refine swp_loopA (Hint.ann (h12f r t x81) [(2,AV.ptr 0 []),(3,AV.ptr 8 []),(5,AV.ptr 168 []),(16,iv (x81:Int))] [(0,OB.cells 25 (cRun r)),(8,OB.cells 56 (cTrth t)),(168,OB.cells 62 (cTld (toldOf r)))] 50632) (ent_q hE [] [(0,.same 0),(8,.same 8),(168,.same 168)] [16] [0,8,168] (((some (Src.same 0)=some (Src.same 0)/\nilP = [])/\(some (Src.same 8)=some (Src.same 8)/\nilP = [])/\(some (Src.same 168)=some (Src.same 168)/\nilP = [])/\(iv (x81:Int)=iv (x81:Int)/\true=true)/\(iv 0=iv (↑0:Int)/\nilN = [])/\True)/\((OB.cells 25 (cRun r)=OB.cells 25 (cRun r)/\true=true)/\(OB.cells 56 (cTrth t)=OB.cells 56 (cTrth t)/\true=true)/\(OB.cells 62 (cTld (toldOf r))=OB.cells 62 (cTld (toldOf r))/\true=true)/\True)/\T2) (by kernel_rfl) (by kernel_rfl) ⟨⟨⟨rfl,rfl⟩,⟨rfl,rfl⟩,⟨rfl,rfl⟩,⟨rfl,rfl⟩,⟨(congrArg iv (o115 hp h17 x20 hx20 h23 x78 hx78 h79 x81 hx81 h82 x84 hx84 h85)),rfl⟩,tv⟩,⟨⟨rfl,rfl⟩,⟨rfl,rfl⟩,⟨rfl,rfl⟩,tv⟩,rfl,rfl⟩) (o116 hp h17 x20 hx20 h23 x78 hx78 h79 x81 hx81 h82 x84 hx84 h85) (fun (x121:Nat) hx121 => ?_)
      refine swp_seq (swp_seq ?_)
      refine sR (kt:=[2,3,5,16,21,256]) (kh:=[0,8,168]) (q:=True/\True/\True/\True/\True) (st':=ASt.mk [(2,.ptr 0 []),(3,.ptr 8 []),(5,.ptr 168 []),(16,iv (x81:Int)),(21,iv (x121:Int)),(256,bv (decide ((x121:Int) < r.plates)))] [(0,.cells 25 (cRun r)),(8,.cells 56 (cTrth t)),(168,.cells 62 (cTld (toldOf r)))] 50664) (by kernel_rfl) ⟨tv,tv,tv,tv,tv⟩ ?_
      refine swp_cond (decide ((x121:Int) < r.plates)) (by kernel_rfl) (fun h122 => ?_) (fun h122 => ?_)
      ·refine swp_skip (swp_seq (swp_block (swp_seq ?_)))
       refine swp_region T0_ok mixed (cs:=[(3,CallSpec.eq (s31 r (x81:Int) (x121:Int)) [true,true,true])]) (kt:=[2,3,5,16,21,22,23]) (kh:=[0,8,168]) (q:=True/\True/\True/\((AV.agg (cRun r)=AV.agg (cRun r)/\iv (x81:Int)=iv (x81:Int)/\iv (x121:Int)=iv (x121:Int)/\True)/\Triple Try.prog 31 (s31 r (x81:Int) (x121:Int))/\fits r/\True /\ ∀ (i123:Env),True)/\True/\True/\True/\True/\True/\True) (st':=ASt.mk [(2,.ptr 0 []),(3,.ptr 8 []),(5,.ptr 168 []),(16,iv (x81:Int)),(21,iv (x121:Int)),(22,iv (readS r (x81:Int) (x121:Int))),(23,iv (openE r (readIs r (x81:Int) (x121:Int))))] [(0,.cells 25 (cRun r)),(8,.cells 56 (cTrth t)),(168,.cells 62 (cTld (toldOf r)))] 50736) (by kernel_rfl) ⟨tv,tv,tv,⟨⟨rfl,rfl,rfl,tv⟩,(t31 (r) ((x81:Int)) ((x121:Int))),hp.1,tv,(fun i123=>tv)⟩,tv,tv,tv,tv,tv,tv⟩ ?_
       refine swp_seq ?_
       refine sR (kt:=[2,3,5,16,21,22,23,24]) (kh:=[0,8,168]) (q:=True/\True/\True/\True/\True/\(0<=(x81:Int)/\(x81:Int) < (↑(t.frm.length):Int))/\True/\(0<=t.frm.getD x81 0/\t.frm.getD x81 0 < (↑(t.minutes.length):Int))/\True/\True/\(0<=(x121:Int)/\(x121:Int) < (↑((t.minutes.getD (t.frm.getD x81 0).toNat []).length):Int))/\True/\True/\True/\True/\(0<=(x81:Int)/\(x81:Int) < (↑(r.found.length):Int))/\True/\True/\True/\True/\True) (st':=ASt.mk [(2,.ptr 0 []),(3,.ptr 8 []),(5,.ptr 168 []),(16,iv (x81:Int)),(21,iv (x121:Int)),(22,iv (readS r (x81:Int) (x121:Int))),(23,iv (openE r (readIs r (x81:Int) (x121:Int)))),(24,bv (decide ((t.minutes.getD (t.frm.getD x81 0).toNat []).getD x121 0<=(fnd r x81).minute)))] [(0,.cells 25 (cRun r)),(8,.cells 56 (cTrth t)),(168,.cells 62 (cTld (toldOf r)))] 50896) (by kernel_rfl) ⟨tv,tv,tv,tv,tv,⟨(o117 hp h17 x20 hx20 h23 x78 hx78 h79 x81 hx81 h82 x84 hx84 h85 x121 hx121 h122),(o118 hp h17 x20 hx20 h23 x78 hx78 h79 x81 hx81 h82 x84 hx84 h85 x121 hx121 h122)⟩,tv,⟨(o119 hp h17 x20 hx20 h23 x78 hx78 h79 x81 hx81 h82 x84 hx84 h85 x121 hx121 h122),(o120 hp h17 x20 hx20 h23 x78 hx78 h79 x81 hx81 h82 x84 hx84 h85 x121 hx121 h122)⟩,tv,tv,⟨(o121 hp h17 x20 hx20 h23 x78 hx78 h79 x81 hx81 h82 x84 hx84 h85 x121 hx121 h122),(o122 hp h17 x20 hx20 h23 x78 hx78 h79 x81 hx81 h82 x84 hx84 h85 x121 hx121 h122)⟩,tv,tv,tv,tv,⟨(o123 hp h17 x20 hx20 h23 x78 hx78 h79 x81 hx81 h82 x84 hx84 h85 x121 hx121 h122),(o124 hp h17 x20 hx20 h23 x78 hx78 h79 x81 hx81 h82 x84 hx84 h85 x121 hx121 h122)⟩,tv,tv,tv,tv,tv⟩ ?_
       refine swp_seq ?_
       refine swp_region T0_ok mixed (cs:=[(19,CallSpec.eq (s24 (readS r (x81:Int) (x121:Int)) 1 3) [true,true,true])]) (kt:=[2,3,5,16,21,306]) (kh:=[0,8,168]) (q:=True/\True/\True/\((!!decide (openE r (readIs r (x81:Int) (x121:Int))=0))->(True/\True)/\True)/\((!!decide (openE r (readIs r (x81:Int) (x121:Int))=0))->(((!!decide (openE r (readIs r (x81:Int) (x121:Int))=0))->(!!decide (openE r (readIs r (x81:Int) (x121:Int))=0))=true)/\True/\True)/\True)/\((!!decide (openE r (readIs r (x81:Int) (x121:Int))=0))->(((!!decide (openE r (readIs r (x81:Int) (x121:Int))=0))->(!!decide (openE r (readIs r (x81:Int) (x121:Int))=0))=true)/\True)/\True)/\((!!decide (openE r (readIs r (x81:Int) (x121:Int))=0) && decide (readS r (x81:Int) (x121:Int)=1))->(True/\True)/\True)/\((!!decide (openE r (readIs r (x81:Int) (x121:Int))=0) && decide (readS r (x81:Int) (x121:Int)=1))->(((!!decide (openE r (readIs r (x81:Int) (x121:Int))=0) && decide (readS r (x81:Int) (x121:Int)=1))->(!!decide (openE r (readIs r (x81:Int) (x121:Int))=0) && decide (readS r (x81:Int) (x121:Int)=1))=true)/\True)/\True)/\((!!decide (openE r (readIs r (x81:Int) (x121:Int))=0))->(((!!decide (openE r (readIs r (x81:Int) (x121:Int))=0))->(!!decide (openE r (readIs r (x81:Int) (x121:Int))=0))=true)/\True)/\(decide (readS r (x81:Int) (x121:Int)=1)=true->(!!decide (openE r (readIs r (x81:Int) (x121:Int))=0) && decide (readS r (x81:Int) (x121:Int)=1))=true)/\(decide (readS r (x81:Int) (x121:Int)=1)=false->True))/\(((!decide (openE r (readIs r (x81:Int) (x121:Int))=0))->True)/\((!decide (openE r (readIs r (x81:Int) (x121:Int))=0))=false->(!!decide (openE r (readIs r (x81:Int) (x121:Int))=0))=true))/\True/\((!bif !decide (openE r (readIs r (x81:Int) (x121:Int))=0) then true else bif decide (readS r (x81:Int) (x121:Int)=1) then !decide ((t.minutes.getD (t.frm.getD x81 0).toNat []).getD x121 0<=(fnd r x81).minute) else false)=true->(True/\True)/\True)/\((!bif !decide (openE r (readIs r (x81:Int) (x121:Int))=0) then true else bif decide (readS r (x81:Int) (x121:Int)=1) then !decide ((t.minutes.getD (t.frm.getD x81 0).toNat []).getD x121 0<=(fnd r x81).minute) else false)=true->(((!bif !decide (openE r (readIs r (x81:Int) (x121:Int))=0) then true else bif decide (readS r (x81:Int) (x121:Int)=1) then !decide ((t.minutes.getD (t.frm.getD x81 0).toNat []).getD x121 0<=(fnd r x81).minute) else false)=true->(!bif !decide (openE r (readIs r (x81:Int) (x121:Int))=0) then true else bif decide (readS r (x81:Int) (x121:Int)=1) then !decide ((t.minutes.getD (t.frm.getD x81 0).toNat []).getD x121 0<=(fnd r x81).minute) else false)=true)/\True/\True)/\True)/\((!bif !decide (openE r (readIs r (x81:Int) (x121:Int))=0) then true else bif decide (readS r (x81:Int) (x121:Int)=1) then !decide ((t.minutes.getD (t.frm.getD x81 0).toNat []).getD x121 0<=(fnd r x81).minute) else false)=true->(((!bif !decide (openE r (readIs r (x81:Int) (x121:Int))=0) then true else bif decide (readS r (x81:Int) (x121:Int)=1) then !decide ((t.minutes.getD (t.frm.getD x81 0).toNat []).getD x121 0<=(fnd r x81).minute) else false)=true->(!bif !decide (openE r (readIs r (x81:Int) (x121:Int))=0) then true else bif decide (readS r (x81:Int) (x121:Int)=1) then !decide ((t.minutes.getD (t.frm.getD x81 0).toNat []).getD x121 0<=(fnd r x81).minute) else false)=true)/\True)/\True)/\(((!bif !decide (openE r (readIs r (x81:Int) (x121:Int))=0) then true else bif decide (readS r (x81:Int) (x121:Int)=1) then !decide ((t.minutes.getD (t.frm.getD x81 0).toNat []).getD x121 0<=(fnd r x81).minute) else false) && decide (readS r (x81:Int) (x121:Int)=2))=true->(True/\True)/\True)/\((!bif !decide (openE r (readIs r (x81:Int) (x121:Int))=0) then true else bif decide (readS r (x81:Int) (x121:Int)=1) then !decide ((t.minutes.getD (t.frm.getD x81 0).toNat []).getD x121 0<=(fnd r x81).minute) else false)=true->(((!bif !decide (openE r (readIs r (x81:Int) (x121:Int))=0) then true else bif decide (readS r (x81:Int) (x121:Int)=1) then !decide ((t.minutes.getD (t.frm.getD x81 0).toNat []).getD x121 0<=(fnd r x81).minute) else false)=true->(!bif !decide (openE r (readIs r (x81:Int) (x121:Int))=0) then true else bif decide (readS r (x81:Int) (x121:Int)=1) then !decide ((t.minutes.getD (t.frm.getD x81 0).toNat []).getD x121 0<=(fnd r x81).minute) else false)=true)/\True)/\(decide (readS r (x81:Int) (x121:Int)=2)=true->((!bif !decide (openE r (readIs r (x81:Int) (x121:Int))=0) then true else bif decide (readS r (x81:Int) (x121:Int)=1) then !decide ((t.minutes.getD (t.frm.getD x81 0).toNat []).getD x121 0<=(fnd r x81).minute) else false) && decide (readS r (x81:Int) (x121:Int)=2))=true)/\(decide (readS r (x81:Int) (x121:Int)=2)=false->True))/\(((bif !decide (openE r (readIs r (x81:Int) (x121:Int))=0) then true else bif decide (readS r (x81:Int) (x121:Int)=1) then !decide ((t.minutes.getD (t.frm.getD x81 0).toNat []).getD x121 0<=(fnd r x81).minute) else false)=true->True)/\((bif !decide (openE r (readIs r (x81:Int) (x121:Int))=0) then true else bif decide (readS r (x81:Int) (x121:Int)=1) then !decide ((t.minutes.getD (t.frm.getD x81 0).toNat []).getD x121 0<=(fnd r x81).minute) else false)=false->(!bif !decide (openE r (readIs r (x81:Int) (x121:Int))=0) then true else bif decide (readS r (x81:Int) (x121:Int)=1) then !decide ((t.minutes.getD (t.frm.getD x81 0).toNat []).getD x121 0<=(fnd r x81).minute) else false)=true))/\True/\((!bif bif !decide (openE r (readIs r (x81:Int) (x121:Int))=0) then true else bif decide (readS r (x81:Int) (x121:Int)=1) then !decide ((t.minutes.getD (t.frm.getD x81 0).toNat []).getD x121 0<=(fnd r x81).minute) else false then true else bif decide (readS r (x81:Int) (x121:Int)=2) then decide ((t.minutes.getD (t.frm.getD x81 0).toNat []).getD x121 0<=(fnd r x81).minute) else false)=true->(True/\True)/\True)/\((!bif bif !decide (openE r (readIs r (x81:Int) (x121:Int))=0) then true else bif decide (readS r (x81:Int) (x121:Int)=1) then !decide ((t.minutes.getD (t.frm.getD x81 0).toNat []).getD x121 0<=(fnd r x81).minute) else false then true else bif decide (readS r (x81:Int) (x121:Int)=2) then decide ((t.minutes.getD (t.frm.getD x81 0).toNat []).getD x121 0<=(fnd r x81).minute) else false)=true->(True/\((!bif bif !decide (openE r (readIs r (x81:Int) (x121:Int))=0) then true else bif decide (readS r (x81:Int) (x121:Int)=1) then !decide ((t.minutes.getD (t.frm.getD x81 0).toNat []).getD x121 0<=(fnd r x81).minute) else false then true else bif decide (readS r (x81:Int) (x121:Int)=2) then decide ((t.minutes.getD (t.frm.getD x81 0).toNat []).getD x121 0<=(fnd r x81).minute) else false)=true->(!bif bif !decide (openE r (readIs r (x81:Int) (x121:Int))=0) then true else bif decide (readS r (x81:Int) (x121:Int)=1) then !decide ((t.minutes.getD (t.frm.getD x81 0).toNat []).getD x121 0<=(fnd r x81).minute) else false then true else bif decide (readS r (x81:Int) (x121:Int)=2) then decide ((t.minutes.getD (t.frm.getD x81 0).toNat []).getD x121 0<=(fnd r x81).minute) else false)=true)/\True/\True/\True)/\(iv (readS r (x81:Int) (x121:Int))=iv (readS r (x81:Int) (x121:Int))/\iv 1=iv 1/\iv 3=iv 3/\True)/\Triple Try.prog 24 (s24 (readS r (x81:Int) (x121:Int)) 1 3)/\True/\True /\ ∀ (i153:Env),True)/\((!bif bif !decide (openE r (readIs r (x81:Int) (x121:Int))=0) then true else bif decide (readS r (x81:Int) (x121:Int)=1) then !decide ((t.minutes.getD (t.frm.getD x81 0).toNat []).getD x121 0<=(fnd r x81).minute) else false then true else bif decide (readS r (x81:Int) (x121:Int)=2) then decide ((t.minutes.getD (t.frm.getD x81 0).toNat []).getD x121 0<=(fnd r x81).minute) else false)=true->(((!bif bif !decide (openE r (readIs r (x81:Int) (x121:Int))=0) then true else bif decide (readS r (x81:Int) (x121:Int)=1) then !decide ((t.minutes.getD (t.frm.getD x81 0).toNat []).getD x121 0<=(fnd r x81).minute) else false then true else bif decide (readS r (x81:Int) (x121:Int)=2) then decide ((t.minutes.getD (t.frm.getD x81 0).toNat []).getD x121 0<=(fnd r x81).minute) else false)=true->(!bif bif !decide (openE r (readIs r (x81:Int) (x121:Int))=0) then true else bif decide (readS r (x81:Int) (x121:Int)=1) then !decide ((t.minutes.getD (t.frm.getD x81 0).toNat []).getD x121 0<=(fnd r x81).minute) else false then true else bif decide (readS r (x81:Int) (x121:Int)=2) then decide ((t.minutes.getD (t.frm.getD x81 0).toNat []).getD x121 0<=(fnd r x81).minute) else false)=true)/\True)/\True)/\(((bif bif !decide (openE r (readIs r (x81:Int) (x121:Int))=0) then true else bif decide (readS r (x81:Int) (x121:Int)=1) then !decide ((t.minutes.getD (t.frm.getD x81 0).toNat []).getD x121 0<=(fnd r x81).minute) else false then true else bif decide (readS r (x81:Int) (x121:Int)=2) then decide ((t.minutes.getD (t.frm.getD x81 0).toNat []).getD x121 0<=(fnd r x81).minute) else false)=true->True)/\((bif bif !decide (openE r (readIs r (x81:Int) (x121:Int))=0) then true else bif decide (readS r (x81:Int) (x121:Int)=1) then !decide ((t.minutes.getD (t.frm.getD x81 0).toNat []).getD x121 0<=(fnd r x81).minute) else false then true else bif decide (readS r (x81:Int) (x121:Int)=2) then decide ((t.minutes.getD (t.frm.getD x81 0).toNat []).getD x121 0<=(fnd r x81).minute) else false)=false->(!bif bif !decide (openE r (readIs r (x81:Int) (x121:Int))=0) then true else bif decide (readS r (x81:Int) (x121:Int)=1) then !decide ((t.minutes.getD (t.frm.getD x81 0).toNat []).getD x121 0<=(fnd r x81).minute) else false then true else bif decide (readS r (x81:Int) (x121:Int)=2) then decide ((t.minutes.getD (t.frm.getD x81 0).toNat []).getD x121 0<=(fnd r x81).minute) else false)=true))/\True) (st':=ASt.mk [(2,.ptr 0 []),(3,.ptr 8 []),(5,.ptr 168 []),(16,iv (x81:Int)),(21,iv (x121:Int)),(306,bv (bif bif bif !decide (openE r (readIs r (x81:Int) (x121:Int))=0) then true else bif decide (readS r (x81:Int) (x121:Int)=1) then !decide ((t.minutes.getD (t.frm.getD x81 0).toNat []).getD x121 0<=(fnd r x81).minute) else false then true else bif decide (readS r (x81:Int) (x121:Int)=2) then decide ((t.minutes.getD (t.frm.getD x81 0).toNat []).getD x121 0<=(fnd r x81).minute) else false then true else !within (readS r (x81:Int) (x121:Int)) 1 3))] [(0,.cells 25 (cRun r)),(8,.cells 56 (cTrth t)),(168,.cells 62 (cTld (toldOf r)))] 51072) (by kernel_rfl) ⟨tv,tv,tv,(fun h124=>⟨⟨tv,tv⟩,tv⟩),(fun h125=>⟨⟨(fun h126=>h125),tv,tv⟩,tv⟩),(fun h127=>⟨⟨(fun h128=>h127),tv⟩,tv⟩),(fun h129=>⟨⟨tv,tv⟩,tv⟩),(fun h130=>⟨⟨(fun h131=>h130),tv⟩,tv⟩),(fun h132=>⟨⟨(fun h133=>h132),tv⟩,(fun h134=>(o125 hp h17 x20 hx20 h23 x78 hx78 h79 x81 hx81 h82 x84 hx84 h85 x121 hx121 h122 h132 h134)),(fun h135=>tv)⟩),⟨(fun h136=>tv),(fun h137=>(o126 hp h17 x20 hx20 h23 x78 hx78 h79 x81 hx81 h82 x84 hx84 h85 x121 hx121 h122 h137))⟩,tv,(fun h138=>⟨⟨tv,tv⟩,tv⟩),(fun h139=>⟨⟨(fun h140=>h139),tv,tv⟩,tv⟩),(fun h141=>⟨⟨(fun h142=>h141),tv⟩,tv⟩),(fun h143=>⟨⟨tv,tv⟩,tv⟩),(fun h144=>⟨⟨(fun h145=>h144),tv⟩,(fun h146=>(o127 hp h17 x20 hx20 h23 x78 hx78 h79 x81 hx81 h82 x84 hx84 h85 x121 hx121 h122 h144 h146)),(fun h147=>tv)⟩),⟨(fun h148=>tv),(fun h149=>(o128 hp h17 x20 hx20 h23 x78 hx78 h79 x81 hx81 h82 x84 hx84 h85 x121 hx121 h122 h149))⟩,tv,(fun h150=>⟨⟨tv,tv⟩,tv⟩),(fun h151=>⟨⟨tv,(fun h152=>h151),tv,tv,tv⟩,⟨rfl,rfl,rfl,tv⟩,(t24 (readS r (x81:Int) (x121:Int)) (1) (3)),tv,tv,(fun i153=>tv)⟩),(fun h154=>⟨⟨(fun h155=>h154),tv⟩,tv⟩),⟨(fun h156=>tv),(fun h157=>(o129 hp h17 x20 hx20 h23 x78 hx78 h79 x81 hx81 h82 x84 hx84 h85 x121 hx121 h122 h157))⟩,tv⟩ ?_
       refine swp_cond (bif bif bif !decide (openE r (readIs r (x81:Int) (x121:Int))=0) then true else bif decide (readS r (x81:Int) (x121:Int)=1) then !decide ((t.minutes.getD (t.frm.getD x81 0).toNat []).getD x121 0<=(fnd r x81).minute) else false then true else bif decide (readS r (x81:Int) (x121:Int)=2) then decide ((t.minutes.getD (t.frm.getD x81 0).toNat []).getD x121 0<=(fnd r x81).minute) else false then true else !within (readS r (x81:Int) (x121:Int)) 1 3) (by kernel_rfl) (fun h=>by cases (h.symm.trans (o130 hp h17 x20 hx20 h23 x78 hx78 h79 x81 hx81 h82 x84 hx84 h85 x121 hx121 h122))) (fun _ => ?_)
       refine swp_skip ?_
       refine sR (kt:=[2,3,5,16,21]) (kh:=[0,8,168]) (q:=True/\inI ((x121:Int) + 1)/\True/\True) (st':=ASt.mk [(2,.ptr 0 []),(3,.ptr 8 []),(5,.ptr 168 []),(16,iv (x81:Int)),(21,iv ((x121:Int) + 1))] [(0,.cells 25 (cRun r)),(8,.cells 56 (cTrth t)),(168,.cells 62 (cTld (toldOf r)))] 51096) (by kernel_rfl) ⟨tv,(o131 hp h17 x20 hx20 h23 x78 hx78 h79 x81 hx81 h82 x84 hx84 h85 x121 hx121 h122),tv,tv⟩ ?_
       exact loop_next (Hint.ann (h12f r t x81) [(2,AV.ptr 0 []),(3,AV.ptr 8 []),(5,AV.ptr 168 []),(16,iv (x81:Int))] [(0,OB.cells 25 (cRun r)),(8,OB.cells 56 (cTrth t)),(168,OB.cells 62 (cTld (toldOf r)))] 50632) x121 (ent_q hE [] [(0,.same 0),(8,.same 8),(168,.same 168)] [16] [0,8,168] (((some (Src.same 0)=some (Src.same 0)/\nilP = [])/\(some (Src.same 8)=some (Src.same 8)/\nilP = [])/\(some (Src.same 168)=some (Src.same 168)/\nilP = [])/\(iv (x81:Int)=iv (x81:Int)/\true=true)/\(iv ((x121:Int) + 1)=iv (↑(x121 + 1):Int)/\nilN = [])/\True)/\((OB.cells 25 (cRun r)=OB.cells 25 (cRun r)/\true=true)/\(OB.cells 56 (cTrth t)=OB.cells 56 (cTrth t)/\true=true)/\(OB.cells 62 (cTld (toldOf r))=OB.cells 62 (cTld (toldOf r))/\true=true)/\True)/\T2) (by kernel_rfl) (by kernel_rfl) ⟨⟨⟨rfl,rfl⟩,⟨rfl,rfl⟩,⟨rfl,rfl⟩,⟨rfl,rfl⟩,⟨(congrArg iv (o132 hp h17 x20 hx20 h23 x78 hx78 h79 x81 hx81 h82 x84 hx84 h85 x121 hx121 h122)),rfl⟩,tv⟩,⟨⟨rfl,rfl⟩,⟨rfl,rfl⟩,⟨rfl,rfl⟩,tv⟩,rfl,rfl⟩) (o133 hp h17 x20 hx20 h23 x78 hx78 h79 x81 hx81 h82 x84 hx84 h85 x121 hx121 h122) (o134 hp h17 x20 hx20 h23 x78 hx78 h79 x81 hx81 h82 x84 hx84 h85 x121 hx121 h122)
      ·refine swp_exit ?_
       refine sR (kt:=[2,3,5,16]) (kh:=[0,8,168]) (q:=True/\inI ((x81:Int) + 1)/\True/\True) (st':=ASt.mk [(2,.ptr 0 []),(3,.ptr 8 []),(5,.ptr 168 []),(16,iv ((x81:Int) + 1))] [(0,.cells 25 (cRun r)),(8,.cells 56 (cTrth t)),(168,.cells 62 (cTld (toldOf r)))] 50688) (by kernel_rfl) ⟨tv,(o135 hp h17 x20 hx20 h23 x78 hx78 h79 x81 hx81 h82 x84 hx84 h85 x121 hx121 h122),tv,tv⟩ ?_
       exact loop_next (Hint.ann (h12d r t) [(2,AV.ptr 0 []),(3,AV.ptr 8 []),(5,AV.ptr 168 [])] [(0,OB.cells 25 (cRun r)),(8,OB.cells 56 (cTrth t)),(168,OB.cells 62 (cTld (toldOf r)))] 30440) x81 (ent_q hE [] [(0,.same 0),(8,.same 8),(168,.same 168)] [] [0,8,168] (((some (Src.same 0)=some (Src.same 0)/\nilP = [])/\(some (Src.same 8)=some (Src.same 8)/\nilP = [])/\(some (Src.same 168)=some (Src.same 168)/\nilP = [])/\(iv ((x81:Int) + 1)=iv (↑(x81 + 1):Int)/\nilN = [])/\True)/\((OB.cells 25 (cRun r)=OB.cells 25 (cRun r)/\true=true)/\(OB.cells 56 (cTrth t)=OB.cells 56 (cTrth t)/\true=true)/\(OB.cells 62 (cTld (toldOf r))=OB.cells 62 (cTld (toldOf r))/\true=true)/\True)/\T2) (by kernel_rfl) (by kernel_rfl) ⟨⟨⟨rfl,rfl⟩,⟨rfl,rfl⟩,⟨rfl,rfl⟩,⟨(congrArg iv (o136 hp h17 x20 hx20 h23 x78 hx78 h79 x81 hx81 h82 x84 hx84 h85 x121 hx121 h122)),rfl⟩,tv⟩,⟨⟨rfl,rfl⟩,⟨rfl,rfl⟩,⟨rfl,rfl⟩,tv⟩,rfl,rfl⟩) (o137 hp h17 x20 hx20 h23 x78 hx78 h79 x81 hx81 h82 x84 hx84 h85 x121 hx121 h122) (o138 hp h17 x20 hx20 h23 x78 hx78 h79 x81 hx81 h82 x84 hx84 h85 x121 hx121 h122)
    ·refine swp_exit (swp_seq ?_)
     refine swp_region T0_ok mixed (cs:=[(0,CallSpec.eq s19 [])]) (kt:=[4]) (kh:=[]) (q:=(True/\Triple Try.prog 19 s19/\True/\True /\ ∀ (i158:Env),True)/\True/\True) (st':=ASt.mk [(4,bv true)] [] 30496) (by kernel_rfl) ⟨⟨tv,(t19),tv,tv,(fun i158=>tv)⟩,tv,tv⟩ ?_
     refine swp_ret ?_
     exact ret_q [] ((True/\True)/\(bv true=bv true/\nilN = [])/\T3) (by kernel_rfl) ⟨⟨tv,tv⟩,⟨rfl,rfl⟩,rfl,rfl,rfl⟩
theorem each_h0 {r:Run} {t:Trth} (h:(!bif !ready r then true else longB t)=true):okRun r=true:=by
 cases h1:ready r with
 | true=>exact ready_ok h1
 | false=>rw [h1] at h; cases h
theorem each_h {r:Run} {t:Trth} (h:(bif bif !ready r then true else longB t then true else !isTruth r t)=false):EachF r t:=by
 have h1:ready r=true:=by cases e:ready r <;> simp_all
 have h2:isTruth r t=true:=by cases e:isTruth r t <;> simp_all
 exact eachF (ready_ok h1) h2
theorem one_is' {r:Run} (h:One r):isOne r=true:=by
 have:=h.pos
 simp only [isOne,decide_eq_true_eq]; omega
theorem mul_nat {r:Run} (ok:Ok r) (x:Nat):(x:Int) * r.plates=((x * r.plates.toNat:Nat):Int):=by
 have:=ok.plates
 rw [Int.natCast_mul,Int.toNat_of_nonneg (by omega)]
theorem mul_lt {P M x y:Nat} (hx:x < M) (hy:y < P):x * P + y < M * P:=by
 have:=Nat.mul_le_mul_right P (show x + 1<=M by omega)
 rw [Nat.add_mul] at this; omega
theorem oldAt_end {r:Run} {t:Trth} {m p q:Nat} (h:q < p):oldAt r t m p q=oldN r t q (m + 1):=by unfold oldAt; rw [if_pos h]
theorem oldAt_step {r:Run} {t:Trth} {m p q:Nat} (h:q ≠ p):oldAt r t m (p + 1) q=oldAt r t m p q:=by
 unfold oldAt
 by_cases h1:q < p
 ·rw [if_pos h1,if_pos (by omega)]
 ·rw [if_neg h1,if_neg (by omega)]
theorem t12 (r:Run) (t:Trth):Triple Try.prog 12 (s12 r t):=by
 apply w12
 all_goals (first | ((repeat intro _) <;> (try simp only [v0,v1,v2,v3,v4,v5,v6,v7,v8,v9,inI,fits,Go.Sh.small] at *) <;> first | (exact rfl) | omega | exact vz | (simp_all; done) | (simp_all; omega)) | skip)
 case o1=>intro _ h; exact each_h0 h
 all_goals (intro hp h; have F:=each_h h; have ok:=F.one.ok; have hpl:=ok.plates; have hml:=ok.machines; have hfl:=ok.found; have hM:=F.hml; have hR:=F.hfl)
 case o3=>exact F.okb
 case o4=>exact one_is' F.one
 case o5=>omega
 case o6=>omega
 all_goals (intro x hx hl; simp only [decide_eq_true_eq,decide_eq_false_iff_not] at hl)
 case o13 | o16=>omega
 case o14 | o17=>have:=F.row x (by omega); unfold tmin at this; omega
 case o78 =>
  have e:x=r.machines.length:=by omega
  subst e
  have h1:=each_mixes F
  have h2:=each_few F
  show (bif !has (mixesS r) _ then true else decide (_ < fewP r))=false
  rw [h1]
  simp; omega
 all_goals (intro y hy hyl; simp only [decide_eq_true_eq,decide_eq_false_iff_not] at hyl)
 case o24=>omega
 case o26=>have:=F.row x (by omega); unfold tmin at this; omega
 case o27 =>
  have:=Nat.mul_le_mul (show x<=3 by omega) (show r.plates.toNat<=3 by omega)
  rw [mul_nat ok]; exact ⟨by omega,by omega⟩
 case o28 =>
  have:=Nat.mul_le_mul (show x<=3 by omega) (show r.plates.toNat<=3 by omega)
  rw [mul_nat ok]; exact ⟨by omega,by omega⟩
 case o29=>rw [mul_nat ok]; omega
 case o30 =>
  rw [mul_nat ok]
  simp only [toldOf,tWhen_len]
  have:=mul_lt (P:=r.plates.toNat) (M:=r.machines.length) (x:=x) (y:=y) (by omega) (by omega)
  omega
 case o31 =>
  have hlt:=mul_lt (P:=r.plates.toNat) (M:=r.machines.length) (x:=x) (y:=y) (by omega) (by omega)
  have hi:((x:Int) * r.plates + y).toNat=x * r.plates.toNat + y:=by rw [mul_nat ok]; omega
  have h1:=each_when F (m:=x) (p:=y) (by omega) hyl
  rw [hi]
  show (!has ((tWhen r _).getD _ default) (tAt t x y))=false
  rw [tWhen_get _ hlt,wAt_idx r hyl,h1]; rfl
 case o37 =>
  have h1:=rate30 (ok.mach x (by omega)).2 (tAt_b F (m:=x) (p:=y) (by omega) hyl)
  exact ⟨by unfold tAt tmin at h1; omega,by unfold tAt tmin at h1; omega⟩
 case o38 =>
  have h1:=rate30 (ok.mach x (by omega)).2 (tAt_b F (m:=x) (p:=y) (by omega) hyl)
  have h2:=oldN_b F (p:=y) hyl x (by omega)
  have e:oldAt r t x y y=oldN r t y x:=by unfold oldAt; rw [if_neg (Nat.lt_irrefl _)]
  rw [e]
  exact ⟨by unfold tAt tmin at h1; omega,by unfold tAt tmin at h1; omega⟩
 case o42=>exact ⟨by omega,by omega⟩
 case o43=>exact (firstN_succ t x y).symm
 case o44=>exact (lastN_succ t x y).symm
 case o46 =>
  intro i hi
  refine rec_eq (fun h => ?_) (fun h => ?_)
  ·rw [oldAt_step h]
  ·subst h
   have e:oldAt r t x i i=oldN r t i x:=by unfold oldAt; rw [if_neg (Nat.lt_irrefl _)]
   rw [e,oldAt_end (Nat.lt_succ_self i),oldN_succ]; rfl
 case o51 | o52 | o53 =>
  have e:y=r.plates.toNat:=by omega
  subst e
  have h1:=gap_b F (m:=x) (by omega)
  have h2:=rate30 (ok.mach x (by omega)).2 h1
  have h3:=mixN_b F x (by omega)
  exact ⟨by omega,by omega⟩
 case o55=>simp only [toldOf,tMix_len]; omega
 case o57=>intro _; simp only [toldOf,tMix_len]; omega
 case o60 =>
  have e:y=r.plates.toNat:=by omega
  subst e
  obtain ⟨h1,h2⟩:=each_mixed F (m:=x) (by omega)
  show (bif bif decide ((tMix r _).getD x 0=1) then _ else _ then true else bif decide ((tMix r _).getD x 0=2) then _ else _)=false
  rw [tMix_get _ (by omega)]
  by_cases c1:mixedS r x=1
  ·have:=h1 c1; simp [c1,this]
  ·by_cases c2:mixedS r x=2
   ·have:=h2 c2; simp [c2,this]
   ·simp [c1,c2]
 case o61=>omega
 case o62=>intro _; have:=usedTo_le t.frm x; exact ⟨by omega,by omega⟩
 case o64 | o71 =>
  have e:y=r.plates.toNat:=by omega
  subst e
  intro _; exact (mixN_succ r t x).symm
 case o65=>intro h; exact usedTo_t h
 case o72=>intro h; exact usedTo_f h
 case o67 | o74 =>
  have e:y=r.plates.toNat:=by omega
  subst e
  intro _ i hi; rw [oldAt_end hi]
 case o82=>simp only [toldOf,tOld_len]; omega
 case o86 =>
  have e:x=r.machines.length:=by omega
  subst e
  have h1:=each_old F (p:=y) hyl
  show (!has ((tOld r _).getD y default) _)=false
  rw [tOld_get _ (by omega),h1]; rfl
 case o87=>exact ⟨by omega,by omega⟩
 all_goals (intro z hz hzl; simp only [decide_eq_true_eq,decide_eq_false_iff_not] at hzl)
 case o94=>simp only [toldOf,tWhr_len]; omega
 case o97 =>
  show ((tWhr r _).getD z []).length<=_
  rw [tWhr_get _ (by omega)]
  have:=where_facts F.one (i:=z) (by omega)
  omega
 case o98 =>
  show (!isIn ((tWhr r _).getD z []) _)=false
  rw [tWhr_get _ (by omega),each_where F (by omega)]; rfl
 all_goals (intro k hk hkl; simp only [decide_eq_true_eq,decide_eq_false_iff_not] at hkl)
 case o110 =>
  obtain ⟨h1,h2,h3,h4⟩:=each_same F (i:=z) (k:=k) (by omega) (by omega)
  rw [h1,h2]
  by_cases c1:sameS r z k=1
  ·have e:=decide_eq_true (h3 c1); rw [c1]; simp only [e]; rfl
  ·by_cases c2:sameS r z k=2
   ·have e:=decide_eq_false (h4 c2); rw [c2]; simp only [e]; rfl
   ·simp [c1,c2]
 case o113=>omega
 case o114=>omega
 all_goals (intro q hq hql; simp only [decide_eq_true_eq,decide_eq_false_iff_not] at hql; have hin:=froms_in ok F.mem (i:=z) (by omega))
 case o119=>omega
 case o120=>omega
 case o122=>have:=F.row (t.frm.getD z 0).toNat (by omega); unfold tmin at this; omega
 case o130 =>
  obtain ⟨h1,h2,h3,h4⟩:=each_read F (i:=z) (p:=q) (by omega) hql
  unfold tAt tmin at h3 h4
  rw [h1,h2]
  by_cases c1:readS r z q=1
  ·have e:=decide_eq_true (h3 c1); rw [c1]; simp only [e]; rfl
  ·by_cases c2:readS r z q=2
   ·have e:=decide_eq_false (h4 c2); rw [c2]; simp only [e]; rfl
   ·simp [c1,c2]
 case o131=>exact ⟨by omega,by omega⟩
end Go.Ab
namespace Go.Ab
open Go Go.RowKit
def Dec (P:Program) (t:TypeId) {α:Type} (c:α->List AV) (ok:α->Prop):Prop :=
 ∀ {H:Type} (enc:TypeId × Value->H) (w:World) (E:Env) (fuel:Nat) (cs:List Value) (d:DataW H) (ps:List MemPlace),
  (∀ b,E.M b=w.heap[b]?)->DataW.trod enc P w 0 (fun _=>true) true fuel t cs=some (d,ps)->(∀ n ∈ d.weights P t,n<=reachBytes) -> ∃ a,ok a /\ ∀ o,RelL E o (c a) cs
theorem mcell_of {E:Env} {w:World} (h:∀ b,E.M b=w.heap[b]?) {a:Addr} {v:Value} (hc:w.cell? a=some v):a.spot=none/\mcell E.M a.block a.off=some v:=by
 refine ⟨World.cell?_spot hc,?_⟩
 have hs:=World.cell?_spot hc
 unfold World.cell? at hc
 unfold mcell
 rw [h]
 split at hc
 ·rename_i c t fr e
  rw [hs] at hc
  rw [e]
  simpa using hc
 ·cases hc
theorem lit_wf {n:Int} (h:(Lit.int .i64 n).wf=true) : -9223372036854775808<=n/\n<=9223372036854775807:=by
 simpa [Lit.wf,IntKind.min,IntKind.max,IntKind.signed,IntKind.bits] using h
theorem dec_int {P:Program} {t:TypeId} (ht:P.underlying t=some (.int .i64)):Dec P t (fun n=>[iv n]) (fun n => -9223372036854775808<=n/\n<=9223372036854775807):=by
 intro H enc w E fuel cs d ps _ h _
 obtain ⟨n,rfl,_,hw⟩:=DataW.trod_int ht h
 exact ⟨n,lit_wf hw,fun o => .cons (.lit _) rfl .nil⟩
theorem weightsAll_mem {H:Type} {P:Program} {e:TypeId}:∀ {l:List (DataW H)} {d:DataW H},d ∈ l -> ∀ n ∈ d.weights P e,n ∈ DataW.weightsAll P e l:=by
 intro l
 induction l with
 | nil=>intro d h; cases h
 | cons x l ih =>
  intro d h n hn
  rw [DataW.weightsAll,List.mem_append]
  rcases List.mem_cons.1 h with rfl | h
  ·exact .inl hn
  ·exact .inr (ih h n hn)
theorem dec_slice {P:Program} {t e:TypeId} {α:Type} [Inhabited α] {c:α->List AV} {ok:α->Prop} (ht:P.underlying t=some (.slice e)) {sz:Nat} (hsz:P.cellsOf e=sz) (hpos:0 < sz) (hby:0 < P.bytesOf e) (he:Dec P e c ok) :
  Dec P t (fun l:List α=>[.sl sz l.length (fun i=>c (l.getD i default))]) (fun l=>l.length<=140737488355328 /\ ∀ a,a ∈ l->ok a):=by
 intro H enc w E fuel cs d ps hE h hw
 rcases Deep.open_slice ht h with ⟨rfl,hx⟩ | ⟨a,len,cap,m,n,D,Pl,rfl,hb,hl,hm,hmm,hx,hall⟩
 ·refine ⟨[],⟨Nat.zero_le _,fun a ha=>by cases ha⟩,fun o => ?_⟩
  exact .cons (.slN _ _) rfl .nil
 ·simp only [if_true] at hmm
  subst hmm
  rw [hsz] at hall
  obtain ⟨rfl,rfl⟩:=Prod.mk.inj hx
  have hwt:∀ i,i < len -> ∀ k ∈ (D i).weights P e,k<=reachBytes:=by
   intro i hi k hk
   refine hw k ?_
   rw [DataW.weights,ht]
   refine List.mem_cons_of_mem _ (List.mem_append_left _ (weightsAll_mem (d:=D i) ?_ k hk))
   exact List.mem_map.2 ⟨i,List.mem_range.2 hi,rfl⟩
  have hlen:len<=140737488355328:=by
   have h1:(((List.range len).map D).length + ((List.range (m - len)).map fun j=>D (len + j)).length) * P.bytesOf e<=reachBytes:=by
    refine hw _ ?_
    rw [DataW.weights,ht]
    exact List.mem_cons_self ..
   simp only [List.length_map,List.length_range] at h1
   have h2:len<=(len + (m - len)) * P.bytesOf e:=Nat.le_trans (Nat.le_add_right _ _) (Nat.le_mul_of_pos_right _ hby)
   have h3:=reachBytes_lt
   omega
  obtain ⟨g,hg⟩:=Deep.choose_lt (α:=List Value) (p:=fun i cs'=>w.cells? 0 (a.add (i * sz)) sz=some cs'/\DataW.trod enc P w 0 (fun _=>true) true n e cs'=some (D i,Pl i)) hall
  have hdec:∀ i,i < len -> ∃ x,ok x /\ ∀ o,RelL E o (c x) (g i):=fun i hi=>he enc w E n (g i) (D i) (Pl i) hE (hg i (by omega)).2 (hwt i hi)
  obtain ⟨A,hA⟩:=Deep.choose_lt (α:=α) (p:=fun i x=>ok x /\ ∀ o,RelL E o (c x) (g i)) hdec
  refine ⟨(List.range len).map A,⟨by simpa using hlen,fun x hx => ?_⟩,fun o => .cons ?_ rfl .nil⟩
  ·obtain ⟨i,hi,rfl⟩:=List.mem_map.1 hx
   exact (hA i (List.mem_range.1 hi)).1
  ·rw [List.length_map,List.length_range]
   have hcell:∀ i k,i < m->k < sz -> ∃ v,(g i)[k]? = some v/\w.cell? ((a.add (i * sz)).add k)=some v:=by
    intro i k hi hk
    obtain ⟨_,hl1,hl2⟩:=World.cells?_some (hg i hi).1
    have:=hl2 k hk
    obtain ⟨v,hv⟩:∃ v,(g i)[k]? = some v:=⟨_,List.getElem?_eq_getElem (by omega)⟩
    exact ⟨v,hv,by rw [this,hv]⟩
   by_cases h0:m=0
   ·subst h0
    obtain rfl:len=0:=by omega
    exact .slZ _ _ _
   ·obtain ⟨v,_,hv⟩:=hcell 0 0 (by omega) hpos
    have hsp:=(mcell_of hE hv).1
    obtain ⟨b,off,spot⟩:=a
    obtain rfl:spot=none:=by simpa [Addr.add] using hsp
    refine .slA sz len _ b off m g hl hm (fun i hi => ?_) (fun i k hi hk => ?_) (fun i hi => ?_)
    ·exact (World.cells?_some (hg i (by omega)).1).2.1
    ·obtain ⟨v,hv1,hv2⟩:=hcell i k (by omega) hk
     rw [hv1]
     have:=(mcell_of hE hv2).2
     rw [addr_add,addr_add] at this
     exact this
    ·have:((List.range len).map A).getD i default=A i:=by
      rw [List.getD_eq_getElem?_getD,List.getElem?_map,List.getElem?_range hi]; rfl
     rw [this]
     exact (hA i hi).2 false
def DecFs (P:Program) (off fin:Nat) (fs:List Field) {α:Type} (c:α->List AV) (ok:α->Prop):Prop :=
 ∀ {H:Type} (enc:TypeId × Value->H) (w:World) (E:Env) (n:Nat) (cs:List Value) (xs:List (DataW H × List MemPlace)),
  (∀ b,E.M b=w.heap[b]?)->cs.length=fin->xs.length=fs.length->(∀ (i:Nat) (f:Field),fs[i]? = some f->DataW.trod enc P w 0 (fun _=>true) true n f.type ((cs.drop f.offset).take (P.cellsOf f.type))=xs[i]?) →
  (∀ k ∈ DataW.weightsEach P (fs.map (·.type)) (xs.map (·.1)),k<=reachBytes) -> ∃ a,ok a /\ ∀ o,RelL E o (c a) (cs.drop off)
theorem decFs_nil {P:Program} {fin:Nat}:DecFs P fin fin [] (fun _:Unit=>[]) (fun _=>True):=by
 intro H enc w E n cs xs _ hl _ _ _
 refine ⟨(),trivial,fun o => ?_⟩
 rw [List.drop_of_length_le (by omega)]
 exact .nil
theorem decFs_cons {P:Program} {off mid fin:Nat} {f:Field} {fs:List Field} {α β:Type} {c1:α->List AV} {ok1:α->Prop} {c2:β->List AV} {ok2:β->Prop} {t:TypeId} (hft:f.type=t) (ho:f.offset=off) (hm:off + P.cellsOf t=mid)
  (h1:Dec P t c1 ok1) (h2:DecFs P mid fin fs c2 ok2):DecFs P off fin (f :: fs) (fun p:α × β=>c1 p.1 ++ c2 p.2) (fun p=>ok1 p.1/\ok2 p.2):=by
 intro H enc w E n cs xs hE hl hx hall hw
 subst hft; subst ho; subst hm
 cases xs with
 | nil=>simp at hx
 | cons x xs =>
  have h0:=hall 0 f rfl
  simp only [List.getElem?_cons_zero] at h0
  obtain ⟨a,ha,hra⟩:=h1 enc w E n _ x.1 x.2 hE h0 (fun k hk=>hw k (by
   simp only [List.map_cons,DataW.weightsEach]
   exact List.mem_append_left _ hk))
  obtain ⟨b,hb,hrb⟩:=h2 enc w E n cs xs hE hl (by simpa using hx) (fun i g hg=>by
   have:=hall (i + 1) g (by simpa using hg)
   simpa using this) (fun k hk=>hw k (by
   simp only [List.map_cons,DataW.weightsEach]
   exact List.mem_append_right _ hk))
  refine ⟨(a,b),⟨ha,hb⟩,fun o => ?_⟩
  have:=(hra o).append (hrb o)
  rw [← List.drop_drop,List.take_append_drop] at this
  exact this
theorem dec_struct {P:Program} {t:TypeId} {fs:Array Field} {sz:Nat} {α:Type} {c:α->List AV} {ok:α->Prop} (ht:P.underlying t=some (.struct fs)) (hsz:P.cellsOf t=sz) (h:DecFs P 0 sz fs.toList c ok):Dec P t c ok:=by
 intro H enc w E fuel cs d ps hE hd hw
 obtain ⟨xs,n,_,hx,hl,hxl,hall⟩:=DataW.trod_struct ht hd
 obtain ⟨rfl,rfl⟩:=Prod.mk.inj hx
 obtain ⟨a,ha,hr⟩:=h enc w E n cs xs hE (by omega) (by simpa using hxl) (fun i f hf=>hall i f (by simpa using hf)) (fun k hk=>hw k (by rw [DataW.weights,ht]; exact hk))
 exact ⟨a,ha,fun o=>by simpa using hr o⟩
theorem Dec.map {P:Program} {t:TypeId} {α β:Type} {c:α->List AV} {ok:α->Prop} {c':β->List AV} {ok':β->Prop} (h:Dec P t c ok) (g:α->β) (hc:∀ a,ok a->c' (g a)=c a) (hok:∀ a,ok a->ok' (g a)):Dec P t c' ok':=by
 intro H enc w E fuel cs d ps hE hd hw
 obtain ⟨a,ha,hr⟩:=h enc w E fuel cs d ps hE hd hw
 exact ⟨g a,hok a ha,fun o=>by rw [hc a ha]; exact hr o⟩
theorem Dec.arg {P:Program} {t:TypeId} {α:Type} {c:α->List AV} {ok:α->Prop} (h:Dec P t c ok) {H:Type} {enc:TypeId × Value->H} {w:World} {E:Env} (hE:∀ b,E.M b=w.heap[b]?) {v:Value} {d:DataW H} {ps:List MemPlace}
  (hd:DataW.Trod enc P w 0 (fun _=>true) true t v d ps) (hw:∀ n ∈ d.weights P t,n<=reachBytes):∃ a,ok a /\ ∀ o,RelL E o (c a) v.cells.toList:=by
 obtain ⟨fuel,hf⟩:=hd
 exact h enc w E fuel _ d ps hE hf hw
def envOf (w:World):Env:={ M:=fun b=>w.heap[b]?,blk:=fun _=>none,hdr:=fun _=>none,fns:=fun _ _=>False }
theorem heapOK_of (P:Program) (w:World):HeapOK (calleeCtx P (envOf w) w []) (envOf w) (Heap.of []) w where
 os:=rfl
 tape:=rfl
 output:=rfl
 size:=Nat.le_refl _
 pres:=fun _ _=>rfl
 mem:=fun _ _ h=>h
 le:=Env.le.refl _
 ext:=fun _ _ h => .inl h
 own:=fun id ob h=>by cases h
 sep:=fun i j k _ h=>absurd rfl h
theorem trodAll_below {H:Type} {enc:TypeId × Value->H} {P:Program} (hl:laidOutB P=true) {W W':World} (hb:Below W.heap.size W W'):∀ {ts:List TypeId} {vs:List Value} {ds:List (DataW H)} {ps:List MemPlace},
  (∀ t ∈ ts,P.readableRec t=true/\t < P.types.size)->DataW.TrodAll enc P W 0 (fun _=>true) true ts vs ds ps->(∀ x ∈ ps,x.block < W.heap.size) →
  DataW.TrodAll enc P W' 0 (fun b=>decide (b < W.heap.size)) true ts vs ds ps:=by
 intro ts
 induction ts with
 | nil =>
  intro vs ds ps _ h _
  obtain ⟨rfl,rfl,rfl⟩:=ChangeShapes.trodAll_nil h
  exact ChangeShapes.trodAll_mk0
 | cons t ts ih =>
  intro vs ds ps hr h hlt
  obtain ⟨v,vs',d,ds',p,q,rfl,rfl,rfl,hd,hrest⟩:=ChangeShapes.trodAll_cons h
  obtain ⟨h1,h2⟩:=hr t (List.mem_cons_self ..)
  exact ⟨p,q,Below.trod hl h1 h2 hd hb (fun x hx=>hlt x (List.mem_append_left _ hx)),ih (fun t ht=>hr t (List.mem_cons_of_mem _ ht)) hrest (fun x hx=>hlt x (List.mem_append_right _ hx)),rfl⟩
theorem law_contract {P:Program} (hl:laidOutB P=true) {f:FuncId} {fn:Func} {s:ChangeSpec} (hvars:s.vars = []) {tb:TypeId} (hres:fn.resultTypes = #[tb]) (htb:P.underlying tb=some .bool)
  (hread:∀ t ∈ fn.params.toList,P.readableRec t=true/\t < P.types.size)
  {H:Type} {enc:TypeId × Value->H} {W:World} {args:Array Value} {ds gs:List (DataW H)} {before:List MemPlace}
  (hfn:ds.length=fn.params.size->s.fn H ds = { results:=[.lit (.bool true)],args:=ds })
  (hW:DataW.Whole enc P fn.params.toList s.vars false W args.toList ds gs before) {sp:CallSpec} (ht:Triple P f sp) (hp:sp.pre) (hfo:∀ E,sp.fnok E) (hin:sp.hin = []) (hout:sp.hout = []) (hr:sp.res=bv true)
  (hla:args.toList.length=sp.args.length) (hra:∀ k,Rel (envOf W) true (sp.args.getD k .any) (args.toList.getD k undef)) :
  Calls P f args W fun e W' => ∃ v,e = .returned v/\s.post enc P fn false true false false W args v W':=by
 have hok:=heapOK_of P W
 have h:=ht.2 hp (envOf W) W args.toList (hfo _) (by rw [hin]; exact hok) hla hra
 refine (h (by rw [hout]; intro p hp; cases hp)).mono fun e W' hpost => ?_
 obtain ⟨v,E',he,hh,hv,_⟩:=hpost
 rw [hr] at hv
 have hvt:v = .bool true:=by cases hv; rfl
 subst hvt
 have hb:Below W.heap.size W W':=⟨hh.os,hh.tape,hh.output,hh.size,fun k hk=>hh.pres k (by
  rintro (hc | ⟨q,hq,_⟩)
  ·exact absurd hk (Nat.not_lt.2 hc)
  ·rw [hin] at hq; cases hq)⟩
 refine ⟨_,he,?_⟩
 have hW':=hW
 obtain ⟨p,q,hA,hV,rfl,hz,hnd⟩:=hW
 rw [hvars] at hV
 obtain ⟨rfl,rfl⟩:=ChangeShapes.trodVars_none hV
 have hlen:ds.length=fn.params.size:=by
  have:∀ {ts:List TypeId} {vs:List Value} {ds:List (DataW H)} {ps:List MemPlace},DataW.TrodAll enc P W 0 (fun _=>true) true ts vs ds ps->ds.length=ts.length:=by
   intro ts
   induction ts with
   | nil=>intro vs ds ps h; obtain ⟨_,rfl,_⟩:=ChangeShapes.trodAll_nil h; rfl
   | cons t ts ih=>intro vs ds ps h; obtain ⟨_,_,_,_,_,_,rfl,rfl,rfl,_,hr⟩:=ChangeShapes.trodAll_cons h; simp [ih hr]
  simpa using this hA
 refine ⟨ds,[],p ++ [],[],p,[],hW',?_,?_,?_,hb.frame _,fun h=>by cases h⟩
 ·rw [List.append_nil,hfn hlen,hres]
  exact ChangeShapes.trodAll_mk1 (shut_bool htb true)
 ·rw [List.append_nil,hfn hlen]
  exact trodAll_below hl hb hread hA (fun x hx=>hW'.lt x (List.mem_append_left _ hx))
 ·rw [List.append_nil,hfn hlen,hvars]
  rfl
end Go.Ab
namespace Go.Ab
open Go Go.RowKit Go.Proofs Go.Sh Go.En
theorem dInt:Dec Try.prog 3 (fun n=>[iv n]) (fun n => -9223372036854775808<=n/\n<=9223372036854775807):=dec_int Try.underlying3
theorem dInts:Dec Try.prog 30 (fun l:List Int=>[aInts l]) (fun l=>l.length<=140737488355328) :=
 Dec.map (dec_slice (α:=Int) Try.underlying30 (by kernel_rfl) (by decide) (Nat.lt_of_lt_of_eq (by decide:0 < 8) (by kernel_rfl)) dInt) id (fun _ _=>rfl) (fun _ h=>h.1)
theorem dSpan:Dec Try.prog 37 cSpan (fun _=>True) :=
 Dec.map (dec_struct Try.underlying37 (sz:=2) (by kernel_rfl) (decFs_cons (mid:=1) rfl rfl (by kernel_rfl) dInt (decFs_cons (mid:=2) rfl rfl (by kernel_rfl) dInt decFs_nil))) (fun p=>(⟨p.1,p.2.1⟩:Span)) (fun _ _=>rfl) (fun _ _=>trivial)
theorem dSpans:Dec Try.prog 40 (fun l:List Span=>[aSpans l]) (fun l=>l.length<=140737488355328) :=
 Dec.map (dec_slice (α:=Span) Try.underlying40 (by kernel_rfl) (by decide) (Nat.lt_of_lt_of_eq (by decide:0 < 16) (by kernel_rfl)) dSpan) id (fun _ _=>rfl) (fun _ h=>h.1)
theorem dMach:Dec Try.prog 42 cMach (fun m=>m.changes.length<=140737488355328) :=
 Dec.map (dec_struct Try.underlying42 (sz:=2) (by kernel_rfl) (decFs_cons (mid:=1) rfl rfl (by kernel_rfl) dSpans (decFs_cons (mid:=2) rfl rfl (by kernel_rfl) dInt decFs_nil))) (fun p=>(⟨p.1,p.2.1⟩:Mach)) (fun _ _=>rfl) (fun _ h=>h.1)
theorem dFnd:Dec Try.prog 32 cFnd (fun c=>c.new.length<=140737488355328/\c.frm.length<=140737488355328) :=
 Dec.map (dec_struct Try.underlying32 (sz:=3) (by kernel_rfl) (decFs_cons (mid:=1) rfl rfl (by kernel_rfl) dInt (decFs_cons (mid:=2) rfl rfl (by kernel_rfl) dInts (decFs_cons (mid:=3) rfl rfl (by kernel_rfl) dInts decFs_nil)))) (fun p=>(⟨p.1,p.2.1,p.2.2.1⟩:Fnd)) (fun _ _=>rfl) (fun _ h=>⟨h.2.1,h.2.2.1⟩)
theorem dMachs:Dec Try.prog 22 (fun l:List Mach=>[.sl 2 l.length (fun i=>cMach (l.getD i default))]) (fun l=>l.length<=140737488355328 /\ ∀ m,m ∈ l->m.changes.length<=140737488355328) :=
 dec_slice (α:=Mach) Try.underlying22 (by kernel_rfl) (by decide) (Nat.lt_of_lt_of_eq (by decide:0 < 32) (by kernel_rfl)) dMach
theorem dFnds:Dec Try.prog 23 (fun l:List Fnd=>[.sl 3 l.length (fun i=>cFnd (l.getD i default))]) (fun l=>l.length<=140737488355328 /\ ∀ c,c ∈ l->c.new.length<=140737488355328/\c.frm.length<=140737488355328) :=
 dec_slice (α:=Fnd) Try.underlying23 (by kernel_rfl) (by decide) (Nat.lt_of_lt_of_eq (by decide:0 < 56) (by kernel_rfl)) dFnd
theorem dRun:Dec Try.prog 25 cRun fits:=by
 refine Dec.map (dec_struct Try.underlying25 (sz:=4) (by kernel_rfl) (decFs_cons (mid:=1) rfl rfl (by kernel_rfl) dInt (decFs_cons (mid:=2) rfl rfl (by kernel_rfl) dInt (decFs_cons (mid:=3) rfl rfl (by kernel_rfl) dMachs (decFs_cons (mid:=4) rfl rfl (by kernel_rfl) dFnds decFs_nil))))) (fun p=>(⟨p.1,p.2.1,p.2.2.1,p.2.2.2.1⟩:Run)) (fun _ _=>rfl) (fun p h => ?_)
 obtain ⟨_,_,⟨h1,h2⟩,⟨h3,h4⟩,_⟩:=h
 refine ⟨Nat.le_trans h1 (by decide),Nat.le_trans h3 (by decide),fun i => ?_,fun i => ?_⟩
 ·show (p.2.2.1.getD i default).changes.length<=_
  by_cases hi:i < p.2.2.1.length
  ·exact Nat.le_trans (h2 _ (getD_mem _ default hi)) (by decide)
  ·rw [getD_ge _ _ (by omega)]; exact Nat.zero_le _
 ·show (p.2.2.2.1.getD i default).new.length<=_/\(p.2.2.2.1.getD i default).frm.length<=_
  by_cases hi:i < p.2.2.2.1.length
  ·have:=h4 _ (getD_mem _ default hi)
   exact ⟨Nat.le_trans this.1 (by decide),Nat.le_trans this.2 (by decide)⟩
  ·rw [getD_ge _ _ (by omega)]; exact ⟨Nat.zero_le _,Nat.zero_le _⟩
set_option maxRecDepth 100000
theorem laidOut:laidOutB Try.prog=true:=by kernel_rfl
section
variable {H:Type} {enc:TypeId × Value->H} {W:World} {base:Nat} {v:Value} {d:DataW H} {ps:List MemPlace}
theorem arg_struct {t:TypeId} {fs:Array Field} {α:Type} {c:α->List AV} {ok:α->Prop} (ht:Try.prog.underlying t=some (.struct fs)) (hD:Dec Try.prog t c ok) (hval:Value.okWide Try.prog W .any base t v) (hd:DataW.Trod enc Try.prog W 0 (fun _=>true) true t v d ps) (hw:∀ n ∈ d.weights Try.prog t,n<=reachBytes) :
  ∃ a,ok a/\Rel (envOf W) true (.agg (c a)) v:=by
 unfold Value.okWide at hval
 rw [ht] at hval
 obtain ⟨cs,rfl,_⟩:=hval
 obtain ⟨a,ha,hr⟩:=hD.arg (E:=envOf W) (fun _=>rfl) hd hw
 refine ⟨a,ha,?_⟩
 have h:=Rel.agg (hr true)
 simpa [Value.cells] using h
end
theorem weights_part {H:Type} {ts:List TypeId} {ds:List (DataW H)} (h:(DataW.weightsEach Try.prog ts ds).all (· <= reachBytes)=true) {j:Nat} {t:TypeId} {d:DataW H} (ht:ts[j]? = some t) (hd:ds[j]? = some d):∀ n ∈ d.weights Try.prog t,n<=reachBytes:=by
 intro n hn
 have:=List.all_eq_true.1 h _ (DataW.weights_mem_each ht hd n hn)
 simpa using this
end Go.Ab
namespace Go.Ab
open Go Go.RowKit Go.Proofs Go.Sh Go.En
set_option maxRecDepth 100000
def ArgD (t:TypeId) (α:Type) (c:α->AV) (ok:α->Prop):Prop :=
 (Try.prog.readableRec t=true/\t < Try.prog.types.size) /\ ∀ {H:Type} {enc:TypeId × Value->H} {W:World} {base:Nat} {v:Value} {d:DataW H} {ps:List MemPlace},Value.okWide Try.prog W .any base t v->DataW.Trod enc Try.prog W 0 (fun _=>true) true t v d ps->(∀ n ∈ d.weights Try.prog t,n<=reachBytes) -> ∃ a,ok a/\Rel (envOf W) true (c a) v
abbrev i64 (n:Int):Prop := -9223372036854775808<=n/\n<=9223372036854775807
theorem argStruct {t:TypeId} {fs:Array Field} {α:Type} {c:α->List AV} {ok:α->Prop} (ht:Try.prog.underlying t=some (.struct fs)) (hr:Try.prog.readableRec t=true/\t < Try.prog.types.size) (hD:Dec Try.prog t c ok):ArgD t α (fun a => .agg (c a)) ok:=⟨hr,fun hv hd hw=>arg_struct ht hD hv hd hw⟩
theorem argRun:ArgD 25 Run (fun r=>vRun r) fits:=argStruct Try.underlying25 ⟨by kernel_rfl,of_decide_eq_true (by kernel_rfl)⟩ dRun
theorem law_two {f:FuncId} {fn:Func} {s:ChangeSpec} {t1 t2:TypeId} {α β:Type} {c1:α->AV} {c2:β->AV} {ok1:α->Prop} {ok2:β->Prop} (h1:ArgD t1 α c1 ok1) (h2:ArgD t2 β c2 ok2)
  (hps:fn.params = #[t1,t2]) (hres:fn.resultTypes = #[4]) (hvars:s.vars = []) (hfn:∀ (H:Type) (d1 d2:DataW H),s.fn H [d1,d2] = { results:=[.lit (.bool true)],args:=[d1,d2] })
  (sp:α->β->CallSpec) (ht:∀ r a,Triple Try.prog f (sp r a)) (hargs:∀ r a,(sp r a).args = [c1 r,c2 a]) (hpre:∀ r a,ok1 r->ok2 a->(sp r a).pre)
  (hfo:∀ r a E,(sp r a).fnok E) (hin:∀ r a,(sp r a).hin = []) (hout:∀ r a,(sp r a).hout = []) (hr:∀ r a,(sp r a).res=bv true)
  {H:Type} {enc:TypeId × Value->H} {W:World} {base:Nat} {args:Array Value} {ds gs:List (DataW H)} {before:List MemPlace}
  (hval:∀ (j:Nat) t v,fn.params[j]? = some t->args[j]? = some v->Value.okWide Try.prog W .any base t v) (hW:DataW.Whole enc Try.prog fn.params.toList s.vars false W args.toList ds gs before)
  (hsz:(DataW.weightsEach Try.prog (fn.params.toList ++ s.plain.varTypes Try.prog) (ds ++ gs)).all (· <= reachBytes)=true) :
  Calls Try.prog f args W fun e W' => ∃ v,e = .returned v/\s.post enc Try.prog fn false true false false W args v W':=by
 have hW':=hW
 obtain ⟨p,q,hA,_,_,_,_⟩:=hW
 rw [hps] at hA hval hsz
 obtain ⟨v0,v1,d0,d1,p0,p1,rfl,rfl,rfl,g0,g1⟩:=ChangeShapes.trodAll_two hA
 obtain ⟨r,hr0,r0⟩:=h1.2 (hval 0 t1 v0 rfl rfl) g0 (weights_part hsz (j:=0) rfl rfl)
 obtain ⟨a,ha,r1⟩:=h2.2 (hval 1 t2 v1 rfl rfl) g1 (weights_part hsz (j:=1) rfl rfl)
 refine law_contract laidOut hvars hres Try.underlying4 (fun t htt => ?_) (fun _=>hfn H d0 d1) hW' (ht r a) (hpre r a hr0 ha) (hfo r a) (hin r a) (hout r a) (hr r a) (by rw [hargs]; rfl) (fun k => ?_)
 ·rw [hps] at htt
  have:t=t1 ∨ t=t2:=by simpa using htt
  rcases this with rfl | rfl
  ·exact h1.1
  ·exact h2.1
 ·rw [hargs]
  rcases k with _ | _ | k
  ·exact r0
  ·exact r1
  ·exact .any _
end Go.Ab
namespace Go.Ab
open Go Go.RowKit Go.Proofs Go.Sh Go.En
set_option maxRecDepth 100000
theorem dIntss:Dec Try.prog 54 (fun l:List (List Int)=>[aIntss l]) (fun l=>l.length<=140737488355328 /\ ∀ x,x ∈ l->x.length<=140737488355328) :=
 dec_slice (α:=List Int) Try.underlying54 (by kernel_rfl) (by decide) (Nat.lt_of_lt_of_eq (by decide:0 < 24) (by kernel_rfl)) dInts
theorem dTrth:Dec Try.prog 56 cTrth tfits:=by
 refine Dec.map (dec_struct Try.underlying56 (sz:=2) (by kernel_rfl) (decFs_cons (mid:=1) rfl rfl (by kernel_rfl) dIntss (decFs_cons (mid:=2) rfl rfl (by kernel_rfl) dInts decFs_nil))) (fun p=>(⟨p.1,p.2.1⟩:Trth)) (fun _ _=>rfl) (fun p h => ?_)
 obtain ⟨⟨h1,h2⟩,h3,_⟩:=h
 refine ⟨Nat.le_trans h1 (by decide),Nat.le_trans h3 (by decide),fun i => ?_⟩
 show (p.1.getD i []).length<=_
 by_cases hi:i < p.1.length
 ·exact Nat.le_trans (h2 _ (getD_mem _ [] hi)) (by decide)
 ·rw [getD_ge _ _ (by omega)]; exact Nat.zero_le _
theorem argTrth:ArgD 56 Trth (fun t=>vTrth t) tfits:=argStruct Try.underlying56 ⟨by kernel_rfl,of_decide_eq_true (by kernel_rfl)⟩ dTrth
end Go.Ab
namespace Go.Proofs.Ytcbgfmalillplaa
open Go Go.Ab Go.Sh Go.En Go.RowKit
set_option maxRecDepth 100000
theorem own:ownKnob Try.prog.godebug=none:=by kernel_rfl
def nilArgs:Array Value := #[.agg #[.int .i64 0,.int .i64 0,.slice none 0 0,.slice none 0 0],.agg #[.slice none 0 0,.slice none 0 0]]
theorem lifted (os:Os) (started:os.Started) (H:Type) (enc:TypeId × Value->H) :
  ReturnsInHanded {} Try.checked os 12 .any (Rows.copiesEachSpec.pre6 enc Try.prog Try.f12 Rows.copiesEachRow.domain false) (Rows.copiesEachSpec.post enc Try.prog Try.f12 false true false false):=by
 refine returnsInHanded_of_change_sized (C:=Try.checked) own started (by kernel_rfl) Try.func12
  (ChangeSpec.witness6 (enc:=enc) (C:=Try.checked) false ⟨#[],nilArgs,[]⟩ 8 (by kernel_rfl) (by kernel_rfl) (by kernel_rfl) (by kernel_rfl)) ?_
 intro W base args ds gs before hval hW _ hsz _
 exact law_two argRun argTrth Try.params12 rfl rfl (fun _ _ _=>rfl) s12 t12 (fun _ _=>rfl) (fun _ _ h g=>⟨h,g⟩) (fun _ _ _=>trivial) (fun _ _=>rfl) (fun _ _=>rfl) (fun _ _=>rfl) hval hW hsz
theorem proved:Rows.CopiesEachSaid :=
 OpenClaim.holds_of_wide 12 Try.f12 rfl rfl rfl rfl rfl rfl rfl ⟨rfl,rfl,rfl,rfl,rfl⟩ rfl rfl rfl rfl rfl (by kernel_rfl) Try.func12 (by kernel_rfl)
  (of_decide_eq_true (by kernel_rfl)) (by unfold Func.isWrapper; first | (rw [if_pos (by decide +kernel)]; kernel_rfl) | (rw [if_neg (by decide +kernel)]; exact ⟨rfl,rfl⟩))
  (fun os started H enc _=>lifted os started H enc)
end Go.Proofs.Ytcbgfmalillplaa
