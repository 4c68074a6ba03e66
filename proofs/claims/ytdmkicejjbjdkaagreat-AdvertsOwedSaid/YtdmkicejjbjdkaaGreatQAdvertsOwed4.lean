/- Part 4 of the proof: own library, plain forms and walks. -/
import Derived.Test.YtdmkicejjbjdkaaGreatQAdvertsOwed3
import Derived.Shelf.Sort.Plain
import Derived.Shelf.Slices.In.SortNone
import Derived.Test.YtdmkicejjbjdkaaGreatProg
import Derived.Shelf.Small.Bits
set_option linter.all false
set_option linter.deprecated false
namespace Go.Proofs
open Go.Shelf
def Tryz.lays189_ren:Go.Shelf.Ren:=⟨fun | 189=>70 | 125=>85 | 257=>84 | 128=>97 | 129=>98 | 294=>88 | 295=>89 | 296=>90 | 297=>91 | 298=>92 | 299=>93 | 216=>94 | 300=>95 | 301=>96 | 328=>108 | 329=>109 | 330=>110 | 331=>111 | 332=>112 | 215=>113 | 343=>117 | n=>n,fun | 28=>27 | 3=>3 | 46=>118 | 0=>0 | 51=>130 | 53=>132 | 4=>4 | 183=>123 | 182=>122 | 131=>127 | 5=>5 | 9=>9 | 218=>139 | 222=>143 | 228=>147 | 229=>148 | n=>n,fun | n=>n⟩
theorem Tryz.lays189:Go.Proofs.Lays.n189 Tryz.prog Tryz.lays189_ren:={
 mixed:=by kernel_rfl
 f125:=Tryz.func85.trans (congrArg some (by kernel_rfl))
 f128:=Tryz.func97.trans (congrArg some (by kernel_rfl))
 f129:=Tryz.func98.trans (congrArg some (by kernel_rfl))
 f189:=Tryz.func70.trans (congrArg some (by kernel_rfl))
 f215:=Tryz.func113.trans (congrArg some (by kernel_rfl))
 f216:=Tryz.func94.trans (congrArg some (by kernel_rfl))
 f257:=Tryz.func84.trans (congrArg some (by kernel_rfl))
 f294:=Tryz.func88.trans (congrArg some (by kernel_rfl))
 f295:=Tryz.func89.trans (congrArg some (by kernel_rfl))
 f296:=Tryz.func90.trans (congrArg some (by kernel_rfl))
 f297:=Tryz.func91.trans (congrArg some (by kernel_rfl))
 f298:=Tryz.func92.trans (congrArg some (by kernel_rfl))
 f299:=Tryz.func93.trans (congrArg some (by kernel_rfl))
 f300:=Tryz.func95.trans (congrArg some (by kernel_rfl))
 f301:=Tryz.func96.trans (congrArg some (by kernel_rfl))
 f328:=Tryz.func108.trans (congrArg some (by kernel_rfl))
 f329:=Tryz.func109.trans (congrArg some (by kernel_rfl))
 f330:=Tryz.func110.trans (congrArg some (by kernel_rfl))
 f331:=Tryz.func111.trans (congrArg some (by kernel_rfl))
 f332:=Tryz.func112.trans (congrArg some (by kernel_rfl))
 f343:=Tryz.func117.trans (congrArg some (by kernel_rfl))
 t0:=Tryz.underlying0
 a0:=Tryz.isAgg0
 z0:=Tryz.sizeOf0
 v0:=Tryz.zeroValue0
 t3:=Tryz.underlying3
 a3:=Tryz.isAgg3
 z3:=Tryz.sizeOf3
 v3:=Tryz.zeroValue3
 t4:=Tryz.underlying4
 a4:=Tryz.isAgg4
 z4:=Tryz.sizeOf4
 v4:=Tryz.zeroValue4
 t5:=Tryz.underlying5
 a5:=Tryz.isAgg5
 z5:=Tryz.sizeOf5
 v5:=Tryz.zeroValue5
 t9:=Tryz.underlying9
 a9:=Tryz.isAgg9
 z9:=Tryz.sizeOf9
 v9:=Tryz.zeroValue9
 t28:=Tryz.underlying27
 a28:=Tryz.isAgg27
 z28:=Tryz.sizeOf27
 v28:=Tryz.zeroValue27
 t46:=Tryz.underlying118
 a46:=Tryz.isAgg118
 z46:=Tryz.sizeOf118
 v46:=Tryz.zeroValue118
 t51:=Tryz.underlying130
 a51:=Tryz.isAgg130
 z51:=Tryz.sizeOf130
 v51:=Tryz.zeroValue130
 t53:=Tryz.underlying132
 a53:=Tryz.isAgg132
 z53:=Tryz.sizeOf132
 v53:=Tryz.zeroValue132
 t131:=Tryz.underlying127
 a131:=Tryz.isAgg127
 z131:=Tryz.sizeOf127
 v131:=Tryz.zeroValue127
 t182:=Tryz.underlying122
 a182:=Tryz.isAgg122
 z182:=Tryz.sizeOf122
 v182:=Tryz.zeroValue122
 t183:=Tryz.underlying123
 a183:=Tryz.isAgg123
 z183:=Tryz.sizeOf123
 v183:=Tryz.zeroValue123
 t218:=Tryz.underlying139
 a218:=Tryz.isAgg139
 z218:=Tryz.sizeOf139
 v218:=Tryz.zeroValue139
 t222:=Tryz.underlying143
 a222:=Tryz.isAgg143
 z222:=Tryz.sizeOf143
 v222:=Tryz.zeroValue143
 t228:=Tryz.underlying147
 a228:=Tryz.isAgg147
 z228:=Tryz.sizeOf147
 v228:=Tryz.zeroValue147
 t229:=Tryz.underlying148
 a229:=Tryz.isAgg148
 z229:=Tryz.sizeOf148
 v229:=Tryz.zeroValue148 }
open Go.Sort Go.RowKit in
theorem Tryz.slices_Sort_int (blk off cap:Nat) (zs:List Int) (w:World) (hH:Holds (Value.int .i64) w blk off zs.toArray) (hblk:blk < w.heap.size) (hsz:zs.length < 4611686018427387904) :
  Calls Tryz.prog 70 #[.slice (some ⟨blk,off,none⟩) zs.length cap] w fun e w' =>
   e = .returned (.tuple #[]) /\ ∃ n os,w'=grow (putRow (Value.int .i64) (Sort.ahead w n) blk off (zs.mergeSort fun x y=>decide (x<=y)).toArray) os:=Any.slices_Sort_int Tryz.lays189 blk off cap zs w hH hblk hsz
theorem Tryz.slices_Sort_int_none (p:Option Addr) (cap:Nat) (w:World):Calls Tryz.prog 70 #[.slice p 0 cap] w fun e w'=>e = .returned (.tuple #[])/\w'=w:=Any.slices_Sort_int_none Tryz.lays189 p cap w
end Go.Proofs
namespace Go.Sh
open Go.Ab
def okD (x:Sday):Prop:=(-1000<=x.ad/\x.ad<=1000) /\ -1000<=x.day/\x.day<=1000
def okDs (l:List Sday):Prop := ∀ q,q < l.length->okD (sdG l q)
end Go.Sh
namespace Go.Sh
open Go Go.Ab Go.En
def endK (ws:List Sday) (q:Nat):List AV:=if q < (cpL default ws).length then cSday ((cpL default ws).getD q default) else [iv 0,iv 0]
theorem endK_lt {ws:List Sday} {q:Nat} (h:q < (cpL default ws).length):endK ws q=cSday ((cpL default ws).getD q default):=if_pos h
theorem endK_ge {ws:List Sday} {q:Nat} (h:¬ q < (cpL default ws).length):endK ws q = [iv 0,iv 0]:=if_neg h
end Go.Sh
namespace Go.Ab
open Go Go.RowKit Go.Proofs Go.Sh Go.En
def s85 (n:Int):CallSpec:={ args:=[.lit (.int .u64 n)],pre:=0<=n/\n<=9223372036854775807,res := .any }
theorem t85 (n:Int):Triple Tryz.prog 85 (s85 n):=by
 refine ⟨Tryz.call85,fun hp E w vs _ hok hlen hrel _ => ?_⟩
 obtain ⟨v,rfl⟩:∃ v,vs = [v]:=by
  match vs,hlen with
  | [v],_=>exact ⟨v,rfl⟩
 have h0:=hrel 0
 change Rel E true (.lit (.int .u64 n)) v at h0
 cases h0
 refine (Go.Proofs.Any.bits_Len { Tryz.lays189 with } n w hp.1 (by have:=hp.2; omega)).mono ?_
 rintro e w' ⟨rfl,rfl⟩
 exact ⟨_,E,rfl,hok,.any _,fun _ _=>⟨rfl,rfl⟩⟩
def s75 (l:List Int):CallSpec:={ args:=[aInts l],res:=iv ((l.find? fun n => !decide (n=0)).getD 0),pre:=l.length<=65536 }
def h75 (l:List Int):Hint:={ X:=Nat,M:=fun i=>[(8,iv i)],I:=fun i=>i<=l.length /\ ∀ j,j < i->l.getD j 0=0,mu:=fun i=>l.length - i,x0:=(0:Nat),nx:=fun i=>i + 1 }
def s74 (x y:Sday):CallSpec:={ args:=[vSday x,vSday y],res:=iv (cmpD x y),pre:=okD x/\okD y }
def c74 (x y:Sday):CallSpec:=s75 [x.day - y.day,x.ad - y.ad]
def cmpF:AV := .clo 74 []
def focB:CallSpec:={ args:=[],res := .any }
abbrev rowG (n:Nat) (l:List Sday):OB := .vec 54 2 n (fun i=>cSday (sdG l i))
def io100 (ws:List Sday):IoSpec:={ args:=[.vec 0,iv 0,iv ws.length,cmpF],pre:=ws.length<=12/\okDs ws,hin:=[(0,rowS ws)],res := .tup [],hout:=[(0,rowS (sortD ws))] }
def s100 (b:Nat) (ws:List Sday):CallSpec:=(io100 ws).at [(0,b)]
def h100a (ws:List Sday):Hint:={ X:=Nat,M:=fun x=>[(8,iv ((x:Int) + 1))],H:=fun x=>[(0,rowG ws.length (insTo ws x))],I:=fun x=>x=0 ∨ x < ws.length,mu:=fun x=>ws.length - x,x0:=(0:Nat),nx:=fun x=>x + 1 }
def h100b (ws:List Sday) (x:Nat):Hint:={ X:=Nat × List Sday,M:=fun y=>[(9,iv y.1)],H:=fun y=>[(0,rowG ws.length y.2)],I:=fun y=>y.1<=x + 1/\(y.2.length=ws.length/\okDs y.2)/\bub (x + 1) (insTo ws x)=bub y.1 y.2,mu:=fun y=>y.1,x0:=(x + 1,insTo ws x),nx:=fun y=>(y.1 - 1,swL y.2 y.1) }
def c100 (ws:List Sday) (x:Nat) (y:Nat × List Sday):CallSpec:=s74 (sdG y.2 y.1) (sdG y.2 (y.1 - 1))
def io87 (ws:List Sday):IoSpec:={ args:=[.vec 0,iv 0,iv ws.length,.any,cmpF],pre:=ws.length<=12/\okDs ws,hin:=[(0,rowS ws)],res := .tup [],hout:=[(0,rowS (sortD ws))] }
def s87 (b:Nat) (ws:List Sday):CallSpec:=(io87 ws).at [(0,b)]
def h87 (ws:List Sday):Hint:={ X:=Nat,M:=fun _=>[(1,iv 0),(2,iv ws.length),(3,.any),(10,bv true),(11,bv true)],H:=fun _=>[],I:=fun _=>True,mu:=fun _=>0,x0:=(0:Nat),nx:=fun x=>x }
def c87 (ws:List Sday) (x:Nat):CallSpec:=s100 0 ws
def io73 (ws:List Sday):IoSpec:={ args:=[.vec 0,cmpF],pre:=ws.length<=12/\okDs ws,hin:=[(0,rowS ws)],res := .tup [],hout:=[(0,rowS (sortD ws))] }
def s73 (b:Nat) (ws:List Sday):CallSpec:=(io73 ws).at [(0,b)]
def c73a (ws:List Sday):CallSpec:=s85 ws.length
def c73b (ws:List Sday):CallSpec:=s87 0 ws
abbrev rowKS (l:List Sday) (n:Nat):OB := .vec 54 2 l.length (fun q=>cSday (rowK default l n q))
abbrev rowKI (l:List Int) (n:Nat):OB := .vec 3 1 l.length (fun q=>[iv (rowK 0 l n q)])
def io76 (ws:List Sday):IoSpec:={ args:=[.vec 0],pre:=ws.length<=65536,hin:=[(0,rowS ws)],res:=aDays (cpL default ws),hout:=[] }
def s76 (b:Nat) (ws:List Sday):CallSpec:=(io76 ws).at [(0,b)]
def h76a (ws:List Sday):Hint:={ X:=Nat,M:=fun k=>[(3,iv k)],I:=fun k=>1<=k/\k<=ws.length /\ ∀ j,j < k->newAt default ws j=true,mu:=fun k=>ws.length - k,x0:=(1:Nat),nx:=fun k=>k + 1 }
def h76b (ws:List Sday) (x:Nat):Hint:={ X:=Nat,M:=fun k=>[(3,iv (cpTo default ws (x + k)).length),(5,iv k)],H:=fun k=>[(0,rowKS ws (x + k))],I:=fun k=>1<=k/\x + k<=ws.length,mu:=fun k=>ws.length - k,x0:=(1:Nat),nx:=fun k=>k + 1 }
end Go.Ab
namespace Go.Ab
open Go Go.RowKit Go.Proofs Go.Sh Go.En
theorem rec_ei8 {α:Type} {i j:Nat} {a:¬ i=j->α} {b:i=j->α} {c:α} (h1:∀ h,a h=c) (h2:∀ h,b h=c):(Decidable.rec a b (instDecidableEqNat i j):α)=c:=by
 cases instDecidableEqNat i j with
 | isTrue h=>exact h2 h
 | isFalse h=>exact h1 h
theorem rec_lt8 {α:Type} {i j:Nat} {a:¬ i < j->α} {b:i < j->α} {c:α} (h1:∀ h,a h=c) (h2:∀ h,b h=c):(Decidable.rec a b (Nat.decLt i j):α)=c:=by
 cases Nat.decLt i j with
 | isTrue h=>exact h2 h
 | isFalse h=>exact h1 h
abbrev q20 (l:List Int) (P:Prop):Prop:=l.length<=65536->P
abbrev q21 (l:List Int) (x0:Nat) (P:Prop):Prop:=(x0<=l.length /\ ∀ (j:Nat),j < x0->l.getD j 0=0)->P
abbrev q22 (l:List Int) (x0:Nat) (P:Prop):Prop:=q21 l x0 (decide ((x0:Int) < (↑(l.length):Int))=true->P)
theorem w75 (l:List Int)
 (o0:List.length l<=65536->0=(↑0:Int))
 (o1:q20 l (0<=l.length /\ ∀ (j:Nat),j < 0->l.getD j 0=0))
 (o2:q20 l (∀ (x0:Nat),q22 l x0 (0<=(x0:Int))))
 (o3:q20 l (∀ (x0:Nat),q22 l x0 ((x0:Int) < (↑(l.length):Int))))
 (o4:q20 l (∀ (x0:Nat),q22 l x0 ((!decide (l.getD x0 0=0))=true->l.getD x0 0=Option.getD (List.find? (fun (n:Int) => !decide (n=0)) l) 0)))
 (o5:q20 l (∀ (x0:Nat),q22 l x0 ((!decide (l.getD x0 0=0))=false->inI ((x0:Int) + 1))))
 (o6:q20 l (∀ (x0:Nat),q22 l x0 ((!decide (l.getD x0 0=0))=false->(x0:Int) + 1=(↑(x0 + 1):Int))))
 (o7:q20 l (∀ (x0:Nat),q22 l x0 ((!decide (l.getD x0 0=0))=false->x0 + 1<=l.length /\ ∀ (j:Nat),j < x0 + 1->l.getD j 0=0)))
 (o8:q20 l (∀ (x0:Nat),q22 l x0 ((!decide (l.getD x0 0=0))=false->l.length - (x0 + 1) < l.length - x0)))
 (o9:q20 l (∀ (x0:Nat),q21 l x0 (decide ((x0:Int) < (↑(l.length):Int))=false->0=Option.getD (List.find? (fun (n:Int) => !decide (n=0)) l) 0))) :
  Triple Tryz.prog 75 (s75 l):=by
 refine triple_of Tryz.func75 rfl Tryz.call75 T0_ok _ rfl rfl rfl rfl (Nat.le_of_ble_eq_true (by kernel_rfl)) (fun _ _ _ _ h=>h) ?_
 intro hpre C hC _ hE
 obtain ⟨P,w0,E0,av,hA,ro,df⟩:=C
 obtain ⟨rfl,rfl,rfl⟩:=hC
 refine swp_seq ?_
 refine zR [0] [] (Ak 1 tv) ?_
 refine swp_seq ?_
 refine zR [0,3] [] (Ak 1 tv) ?_
 refine swp_seq ?_
 refine swp_seq ?_
 refine zR [3,6,7,8] [] (Ak 3 tv) ?_
 refine swp_block ?_
 refine zL (Hint.ann (h75 l) [(3,iv 0),(6,aInts l),(7,iv (↑(l.length):Int))] [] 10040) (zE hE [] [] [3,6,7] [] (An (An (An (zr (iv 0)) (zr true)) (An (An (zr (aInts l)) (zr true)) (An (An (zr (iv (↑(l.length):Int))) (zr true)) (An (An (ci (o0 hpre)) (zr nilN)) tv)))) (Ak 1 (An (zr true) (zr true))))) (o1 hpre) (fun (x0:Nat) hx0 => ?_)
 refine swp_seq ?_
 refine zR [3,6,7,8,9] [] (Ak 1 tv) ?_
 refine swp_seq ?_
 refine zI (decide ((x0:Int) < (↑(l.length):Int))) (fun y1 => ?_) (fun y1 => ?_)
 ·refine swp_skip ?_
  refine swp_seq ?_
  refine swp_block ?_
  refine swp_seq ?_
  refine zR [3,6,7,8,5] [] (An (An (o2 hpre x0 hx0 y1) (o3 hpre x0 hx0 y1)) (Ak 2 tv)) ?_
  refine swp_seq ?_
  refine zR [3,6,7,8,5,14] [] (Ak 3 tv) ?_
  refine zI (!decide (l.getD x0 0=0)) (fun y2 => ?_) (fun y2 => ?_)
  ·refine swp_seq ?_
   refine zR [2] [] (Ak 2 tv) ?_
   refine swp_ret ?_
   exact zT [] (An (Ak 1 tv) (An (An (ci (o4 hpre x0 hx0 y1 y2)) (zr nilN)) (An (zr true) (An (zr true) (zr true)))))
  ·refine swp_skip ?_
   refine zR [3,6,7,8] [] (An (o5 hpre x0 hx0 y1 y2) (Ak 1 tv)) ?_
   exact zn (zE hE [] [] [3,6,7] [] (An (An (An (zr (iv 0)) (zr true)) (An (An (zr (aInts l)) (zr true)) (An (An (zr (iv (↑(l.length):Int))) (zr true)) (An (An (ci (o6 hpre x0 hx0 y1 y2)) (zr nilN)) tv)))) (Ak 1 (An (zr true) (zr true))))) (o7 hpre x0 hx0 y1 y2) (o8 hpre x0 hx0 y1 y2)
 ·refine swp_exit ?_
  refine swp_seq ?_
  refine zR [2] [] (Ak 2 tv) ?_
  refine swp_ret ?_
  exact zT [] (An (Ak 1 tv) (An (An (ci (o9 hpre x0 hx0 y1)) (zr nilN)) (An (zr true) (An (zr true) (zr true)))))
theorem find_at {l:List Int} {x:Nat} (hx:x < l.length) (h:∀ j,j < x->l.getD j 0=0) (hn:l.getD x 0 ≠ 0):(l.find? fun n => !decide (n=0)).getD 0=l.getD x 0:=by
 have:(l.find? fun n => !decide (n=0))=some (l.getD x 0):=by
  rw [List.find?_eq_some_iff_getElem]
  refine ⟨by simpa using hn,x,hx,(getD_lt l 0 hx).symm,fun j hj => ?_⟩
  rw [← getD_lt l 0 (by omega),h j hj]; rfl
 rw [this]; rfl
theorem find_no {l:List Int} (h:∀ j,j < l.length->l.getD j 0=0):(l.find? fun n => !decide (n=0)).getD 0=0:=by
 have:(l.find? fun n => !decide (n=0))=none:=by
  rw [List.find?_eq_none]
  intro x hx
  obtain ⟨i,hi,e⟩:=List.getElem_of_mem hx
  have:=h i hi
  rw [getD_lt _ _ hi,e] at this
  simp [this]
 rw [this]; rfl
theorem t75 (l:List Int):Triple Tryz.prog 75 (s75 l):=by
 apply w75
 all_goals (try delta q20 q21 q22)
 case o1=>intro _; exact ⟨Nat.zero_le _,fun j hj=>absurd hj (Nat.not_lt_zero j)⟩
 case o4=>intro hp x hx hl h; simp only [decide_eq_true_eq] at hl; exact (find_at (by omega) hx.2 (by simpa using h)).symm
 case o7 =>
  intro hp x hx hl h
  simp only [decide_eq_true_eq,Bool.not_eq_false'] at hl h
  exact ⟨by omega,lt_succ_cases hx.2 h⟩
 case o9=>intro hp x hx hl; simp only [decide_eq_false_iff_not] at hl; exact (find_no fun j hj=>hx.2 j (by omega)).symm
 all_goals (try ((repeat intro _) <;> (try simp only [Bool.cond_true_left,Bool.cond_false_right,Bool.not_not,Bool.not_eq_true',Bool.not_eq_false',Bool.or_eq_true,Bool.or_eq_false_iff,Bool.and_eq_true,decide_eq_true_eq,decide_eq_false_iff_not,inI,big] at *) <;> first | (exact rfl) | omega | (exact ⟨Nat.zero_le _,fun j hj=>absurd hj (Nat.not_lt_zero j)⟩) | (simp_all; done) | (simp_all; omega)))
theorem w74 (x:Sday) (y:Sday)
  (o0:okD x/\okD y->inI (Sday.day x - Sday.day y))
  (o1:okD x/\okD y->inI (Sday.ad x - Sday.ad y))
  (o2:okD x/\okD y->2=List.length [x.day - y.day,x.ad - y.ad])
  (o3:okD x/\okD y -> ∀ (i0:Nat),i0 < List.length [x.day - y.day,x.ad - y.ad]->List.getD [[iv (x.day - y.day)],[iv (x.ad - y.ad)]] i0 (TI.za ti3) = [iv (List.getD [x.day - y.day,x.ad - y.ad] i0 0)])
  (o4:okD x/\okD y->List.length [x.day - y.day,x.ad - y.ad]<=65536)
  (o5:okD x/\okD y->Option.getD (List.find? (fun (n:Int) => !decide (n=0)) [x.day - y.day,x.ad - y.ad]) 0=cmpD x y) :
  Triple Tryz.prog 74 (s74 x y):=by
 refine triple_of Tryz.func74 rfl Tryz.call74 T0_ok _ rfl rfl rfl rfl (Nat.le_of_ble_eq_true (by kernel_rfl)) (fun _ _ _ _ h=>h) ?_
 intro hpre C hC _ hE
 obtain ⟨P,w0,E0,av,hA,ro,df⟩:=C
 obtain ⟨rfl,rfl,rfl⟩:=hC
 refine swp_seq ?_
 refine zR [2,3] [0,8] (Ak 3 tv) ?_
 refine swp_seq ?_
 refine zC ([(11,CallSpec.eq (c74 x y) [false])]) [4] [] (Ak 4 (An (o0 hpre) (Ak 4 (An (o1 hpre) (Ak 1 (An (An (An (An (zr 1) (An (o2 hpre) (fun (i0:Nat)=>(fun (y1:i0 < List.length [x.day - y.day,x.ad - y.ad])=>(o3 hpre i0 y1))))) tv) (An (t75 ([x.day - y.day,x.ad - y.ad])) (An (o4 hpre) (Ak 1 (fun (i2:Env)=>tv))))) (Ak 1 tv))))))) ?_
 refine swp_ret ?_
 exact zT [] (An (Ak 1 tv) (An (An (ci (o5 hpre)) (zr nilN)) (An (zr true) (An (zr true) (zr true)))))
theorem t74 (x y:Sday):Triple Tryz.prog 74 (s74 x y):=by
  apply w74
  all_goals (intro hp; simp only [okD] at hp)
  case o0 | o1=>all_goals (simp only [inI]; omega)
  case o2=>rfl
  case o3 => intro i hi; simp only [List.length_cons, List.length_nil] at hi; have : i = 0 ∨ i = 1 := by omega
             rcases this with rfl | rfl <;> rfl
  case o4=>simp
  case o5 =>
    unfold cmpD
    by_cases h:x.day - y.day=0
    · rw [if_pos h,h]
      by_cases h2:x.ad - y.ad=0
      · rw [h2]; rfl
      · simp [h2]
    · rw [if_neg h]; simp [h]
abbrev q23 (ws:List Sday) (P:Prop):Prop:=ws.length<=12/\okDs ws->P
abbrev q24 (ws:List Sday) (x0:Nat) (P:Prop):Prop:=x0=0 ∨ x0 < ws.length->P
abbrev q25 (ws:List Sday) (x0:Nat) (P:Prop):Prop:=q24 ws x0 (decide ((x0:Int) + 1 < (↑(ws.length):Int))=true->P)
abbrev q26 (ws:List Sday) (x0:Nat) (x4:Nat × List Sday) (P:Prop):Prop:=x4.1<=x0 + 1/\(x4.2.length=ws.length/\okDs x4.2)/\bub (x0 + 1) (insTo ws x0)=bub x4.1 x4.2->P
abbrev q27 (ws:List Sday) (x0:Nat) (x4:Nat × List Sday) (P:Prop):Prop:=q26 ws x0 x4 (decide (0 < (↑(x4.1):Int))=true->P)
abbrev q28 (ws:List Sday) (x0:Nat) (x4:Nat × List Sday) (P:Prop):Prop:=q26 ws x0 x4 ((bif decide (0 < (↑(x4.1):Int)) then decide (cmpD (sdG x4.2 x4.1) (sdG x4.2 (x4.1 - 1)) < 0) else false)=true->P)
abbrev q29 (ws:List Sday) (x0:Nat) (x4:Nat × List Sday) (P:Prop):Prop:=q26 ws x0 x4 ((bif decide (0 < (↑(x4.1):Int)) then decide (cmpD (sdG x4.2 x4.1) (sdG x4.2 (x4.1 - 1)) < 0) else false)=false->P)
theorem wio100 (ws:List Sday)
 (o0:List.length ws<=12/\okDs ws->inI (0 + 1))
 (o1:q23 ws (0 + 1=(↑0:Int) + 1))
 (o2:q23 ws (∀ (i1:Nat),i1 < ws.length->cSday (ws.getD i1 default)=cSday (sdG (insTo ws 0) i1)))
 (o3:q23 ws (0=0 ∨ 0 < ws.length))
 (o4:q23 ws (∀ (x0:Nat),q25 ws x0 ((x0:Int) + 1=(↑(x0 + 1):Int))))
 (o5:q23 ws (∀ (x0:Nat),q25 ws x0 ((x0 + 1,insTo ws x0).1<=x0 + 1/\((x0 + 1,insTo ws x0).2.length=ws.length/\okDs (x0 + 1,insTo ws x0).2)/\bub (x0 + 1) (insTo ws x0)=bub (x0 + 1,insTo ws x0).1 (x0 + 1,insTo ws x0).2)))
 (o6:q23 ws (∀ (x0:Nat),q25 ws x0 (∀ (x4:Nat × List Sday),q27 ws x0 x4 (0<=(↑(x4.1):Int)))))
 (o7:q23 ws (∀ (x0:Nat),q25 ws x0 (∀ (x4:Nat × List Sday),q27 ws x0 x4 ((↑(x4.1):Int) < (↑(ws.length):Int)))))
 (o8:q23 ws (∀ (x0:Nat),q25 ws x0 (∀ (x4:Nat × List Sday),q27 ws x0 x4 (x4.1 < ws.length))))
 (o9:q23 ws (∀ (x0:Nat),q25 ws x0 (∀ (x4:Nat × List Sday),q27 ws x0 x4 (inI ((↑(x4.1):Int) - 1)))))
 (o10:q23 ws (∀ (x0:Nat),q25 ws x0 (∀ (x4:Nat × List Sday),q27 ws x0 x4 (0<=(↑(x4.1):Int) - 1))))
 (o11:q23 ws (∀ (x0:Nat),q25 ws x0 (∀ (x4:Nat × List Sday),q27 ws x0 x4 ((↑(x4.1):Int) - 1 < (↑(ws.length):Int)))))
 (o12:q23 ws (∀ (x0:Nat),q25 ws x0 (∀ (x4:Nat × List Sday),q27 ws x0 x4 (((↑(x4.1):Int) - 1).toNat < ws.length))))
 (o13:q23 ws (∀ (x0:Nat),q25 ws x0 (∀ (x4:Nat × List Sday),q27 ws x0 x4 ((sdG x4.2 ((↑(x4.1):Int) - 1).toNat).ad=(sdG x4.2 (x4.1 - 1)).ad))))
 (o14:q23 ws (∀ (x0:Nat),q25 ws x0 (∀ (x4:Nat × List Sday),q27 ws x0 x4 ((sdG x4.2 ((↑(x4.1):Int) - 1).toNat).day=(sdG x4.2 (x4.1 - 1)).day))))
 (o15:q23 ws (∀ (x0:Nat),q25 ws x0 (∀ (x4:Nat × List Sday),q27 ws x0 x4 (okD (sdG x4.2 x4.1)))))
 (o16:q23 ws (∀ (x0:Nat),q25 ws x0 (∀ (x4:Nat × List Sday),q27 ws x0 x4 (okD (sdG x4.2 (x4.1 - 1))))))
 (o17:q23 ws (∀ (x0:Nat),q25 ws x0 (∀ (x4:Nat × List Sday),q28 ws x0 x4 (inI ((↑(x4.1):Int) - 1)))))
 (o18:q23 ws (∀ (x0:Nat),q25 ws x0 (∀ (x4:Nat × List Sday),q28 ws x0 x4 (inI ((↑(x4.1):Int) - 1)))))
 (o19:q23 ws (∀ (x0:Nat),q25 ws x0 (∀ (x4:Nat × List Sday),q28 ws x0 x4 (0<=(↑(x4.1):Int) - 1))))
 (o20:q23 ws (∀ (x0:Nat),q25 ws x0 (∀ (x4:Nat × List Sday),q28 ws x0 x4 ((↑(x4.1):Int) - 1 < (↑(ws.length):Int)))))
 (o21:q23 ws (∀ (x0:Nat),q25 ws x0 (∀ (x4:Nat × List Sday),q28 ws x0 x4 (((↑(x4.1):Int) - 1).toNat < ws.length))))
 (o22:q23 ws (∀ (x0:Nat),q25 ws x0 (∀ (x4:Nat × List Sday),q28 ws x0 x4 (0<=(↑(x4.1):Int)))))
 (o23:q23 ws (∀ (x0:Nat),q25 ws x0 (∀ (x4:Nat × List Sday),q28 ws x0 x4 ((↑(x4.1):Int) < (↑(ws.length):Int)))))
 (o24:q23 ws (∀ (x0:Nat),q25 ws x0 (∀ (x4:Nat × List Sday),q28 ws x0 x4 (x4.1 < ws.length))))
 (o25:q23 ws (∀ (x0:Nat),q25 ws x0 (∀ (x4:Nat × List Sday),q28 ws x0 x4 (0<=(↑(x4.1):Int)))))
 (o26:q23 ws (∀ (x0:Nat),q25 ws x0 (∀ (x4:Nat × List Sday),q28 ws x0 x4 ((↑(x4.1):Int) < (↑(ws.length):Int)))))
 (o27:q23 ws (∀ (x0:Nat),q25 ws x0 (∀ (x4:Nat × List Sday),q28 ws x0 x4 (x4.1 < ws.length))))
 (o28:q23 ws (∀ (x0:Nat),q25 ws x0 (∀ (x4:Nat × List Sday),q28 ws x0 x4 (0<=(↑(x4.1):Int) - 1))))
 (o29:q23 ws (∀ (x0:Nat),q25 ws x0 (∀ (x4:Nat × List Sday),q28 ws x0 x4 ((↑(x4.1):Int) - 1 < (↑(ws.length):Int)))))
 (o30:q23 ws (∀ (x0:Nat),q25 ws x0 (∀ (x4:Nat × List Sday),q28 ws x0 x4 (((↑(x4.1):Int) - 1).toNat < ws.length))))
 (o31:q23 ws (∀ (x0:Nat),q25 ws x0 (∀ (x4:Nat × List Sday),q28 ws x0 x4 (inI ((↑(x4.1):Int) - 1)))))
 (o32:q23 ws (∀ (x0:Nat),q25 ws x0 (∀ (x4:Nat × List Sday),q28 ws x0 x4 ((↑(x4.1):Int) - 1=(↑(x4.1 - 1):Int)))))
 (o33:q23 ws (∀ (x0:Nat),q25 ws x0 (∀ (x4:Nat × List Sday),q28 ws x0 x4 (∀ (i32:Nat),i32 < ws.length->Decidable.rec (fun (h:¬i32=((↑(x4.1):Int) - 1).toNat)=>Decidable.rec (fun (h:¬i32=x4.1)=>cSday (sdG x4.2 i32)) (fun (h:i32=x4.1)=>[iv (sdG x4.2 ((↑(x4.1):Int) - 1).toNat).ad,iv (sdG x4.2 ((↑(x4.1):Int) - 1).toNat).day] ++ []) (instDecidableEqNat i32 x4.1)) (fun (h:i32=((↑(x4.1):Int) - 1).toNat)=>[iv (sdG x4.2 x4.1).ad,iv (sdG x4.2 x4.1).day]) (instDecidableEqNat i32 ((↑(x4.1):Int) - 1).toNat)=cSday (sdG (swL x4.2 x4.1) i32)))))
 (o34:q23 ws (∀ (x0:Nat),q25 ws x0 (∀ (x4:Nat × List Sday),q28 ws x0 x4 ((x4.1 - 1,swL x4.2 x4.1).1<=x0 + 1/\((x4.1 - 1,swL x4.2 x4.1).2.length=ws.length/\okDs (x4.1 - 1,swL x4.2 x4.1).2)/\bub (x0 + 1) (insTo ws x0)=bub (x4.1 - 1,swL x4.2 x4.1).1 (x4.1 - 1,swL x4.2 x4.1).2))))
 (o35:q23 ws (∀ (x0:Nat),q25 ws x0 (∀ (x4:Nat × List Sday),q28 ws x0 x4 ((x4.1 - 1,swL x4.2 x4.1).1 < x4.1))))
 (o36:q23 ws (∀ (x0:Nat),q25 ws x0 (∀ (x4:Nat × List Sday),q29 ws x0 x4 (inI ((x0:Int) + 1 + 1)))))
 (o37:q23 ws (∀ (x0:Nat),q25 ws x0 (∀ (x4:Nat × List Sday),q29 ws x0 x4 ((x0:Int) + 1 + 1=(↑(x0 + 1):Int) + 1))))
 (o38:q23 ws (∀ (x0:Nat),q25 ws x0 (∀ (x4:Nat × List Sday),q29 ws x0 x4 (∀ (i34:Nat),i34 < ws.length->cSday (sdG x4.2 i34)=cSday (sdG (insTo ws (x0 + 1)) i34)))))
 (o39:q23 ws (∀ (x0:Nat),q25 ws x0 (∀ (x4:Nat × List Sday),q29 ws x0 x4 (x0 + 1=0 ∨ x0 + 1 < ws.length))))
 (o40:q23 ws (∀ (x0:Nat),q25 ws x0 (∀ (x4:Nat × List Sday),q29 ws x0 x4 (ws.length - (x0 + 1) < ws.length - x0))))
 (o41:q23 ws (∀ (x0:Nat),q24 ws x0 (decide ((x0:Int) + 1 < (↑(ws.length):Int))=false->ws.length=(sortD ws).length)))
 (o42:q23 ws (∀ (x0:Nat),q24 ws x0 (decide ((x0:Int) + 1 < (↑(ws.length):Int))=false -> ∀ (i36:Nat),i36 < ws.length->cSday (sdG (insTo ws x0) i36)=cSday ((sortD ws).getD i36 default))))
  (l:List (Nat × Nat)) (hl:l.map (·.1) = [0]) (hnd:(l.map (·.2)).Nodup) :
  Triple Tryz.prog 100 (IoSpec.at (io100 ws) l):=by
 refine triple_io Tryz.func100 rfl Tryz.call100 T0_ok (io100 ws) 1 l (by rw [hl]; kernel_rfl) hnd (Nat.le_of_ble_eq_true (by kernel_rfl)) (fun _ _ _ _ h=>h) ?_
 intro hpre C hC _ hE
 obtain ⟨P,w0,E0,av,hA,ro,df⟩:=C
 obtain ⟨rfl,rfl,rfl⟩:=hC
 refine swp_seq ?_
 refine zR [0,1,2,3,8] [0] (Ak 1 (An (o0 hpre) (Ak 1 tv))) ?_
 refine swp_block ?_
 refine zL (Hint.ann (h100a ws) [(0,AV.vec 0),(1,iv 0),(2,iv (↑(ws.length):Int)),(3,AV.clo 74 [])] [] 10025) (zEn 1 hE [] [(0,.same 0)] [1,2,3] [] (An (An (zr (some (Src.same 0))) (An (An (zr (iv 0)) (zr true)) (An (An (zr (iv (↑(ws.length):Int))) (zr true)) (An (An (zr (AV.clo 74 [])) (zr true)) (An (An (ci (o1 hpre)) (zr nilN)) tv))))) (An (An (An (zr 54) (An (zr 2) (An (zr ws.length) (fun (i1:Nat)=>(fun (y2:i1 < ws.length)=>(o2 hpre i1 y2)))))) tv) (An (zr true) (zr true))))) (o3 hpre) (fun (x0:Nat) hx0 => ?_)
 refine swp_seq ?_
 refine swp_seq ?_
 refine zR [0,1,2,3,8,14] [0] (Ak 3 tv) ?_
 refine zI (decide ((x0:Int) + 1 < (↑(ws.length):Int))) (fun y3 => ?_) (fun y3 => ?_)
 ·refine swp_skip ?_
  refine swp_seq ?_
  refine swp_block ?_
  refine swp_seq ?_
  refine zR [0,1,2,3,8,9] [0] (Ak 2 tv) ?_
  refine swp_block ?_
  refine zL (Hint.ann (h100b ws x0) [(0,AV.vec 0),(1,iv 0),(2,iv (↑(ws.length):Int)),(3,AV.clo 74 []),(8,iv ((x0:Int) + 1))] [] 20065) (zEn 1 hE [] [(0,.same 0)] [1,2,3,8] [0] (An (An (zr (some (Src.same 0))) (An (An (zr (iv 0)) (zr true)) (An (An (zr (iv (↑(ws.length):Int))) (zr true)) (An (An (zr (AV.clo 74 [])) (zr true)) (An (An (zr (iv ((x0:Int) + 1))) (zr true)) (An (An (ci (o4 hpre x0 hx0 y3)) (zr nilN)) tv)))))) (An (An (An (zr (OB.vec 54 2 ws.length fun (i:Nat)=>cSday (sdG (insTo ws x0) i))) (zr true)) tv) (An (zr true) (zr true))))) (o5 hpre x0 hx0 y3) (fun (x4:Nat × List Sday) hx4 => ?_)
  refine swp_seq ?_
  refine swp_seq ?_
  refine zC ([(14,CallSpec.eq (c100 ws x0 x4) [true,false])]) [0,1,2,3,8,9,34] [0] (Ak 4 (An (fun (y5:decide (0 < (↑(x4.1):Int))=true)=>(An (Ak 1 tv) tv)) (An (fun (y6:decide (0 < (↑(x4.1):Int))=true)=>(An (Ak 1 tv) tv)) (An (fun (y7:decide (0 < (↑(x4.1):Int))=true)=>(An (Ak 1 tv) tv)) (An (fun (y8:decide (0 < (↑(x4.1):Int))=true)=>(An (An (fun (y9:decide (0 < (↑(x4.1):Int))=true)=>y8) (An (fun (y10:decide (0 < (↑(x4.1):Int))=true)=>y8) tv)) (An (o6 hpre x0 hx0 y3 x4 hx4 y8) (o7 hpre x0 hx0 y3 x4 hx4 y8)))) (An (fun (y11:decide (0 < (↑(x4.1):Int))=true)=>(An (An (fun (y12:decide (0 < (↑(x4.1):Int))=true)=>y11) tv) (An (o8 hpre x0 hx0 y3 x4 hx4 y11) tv))) (An (fun (y13:decide (0 < (↑(x4.1):Int))=true)=>(An (Ak 1 tv) tv)) (An (fun (y14:decide (0 < (↑(x4.1):Int))=true)=>(An (Ak 1 tv) tv)) (An (fun (y15:decide (0 < (↑(x4.1):Int))=true)=>(An (An (fun (y16:decide (0 < (↑(x4.1):Int))=true)=>y15) (Ak 1 tv)) (o9 hpre x0 hx0 y3 x4 hx4 y15))) (An (fun (y17:decide (0 < (↑(x4.1):Int))=true)=>(An (An (fun (y18:decide (0 < (↑(x4.1):Int))=true)=>y17) (An (fun (y19:decide (0 < (↑(x4.1):Int))=true)=>y17) tv)) (An (o10 hpre x0 hx0 y3 x4 hx4 y17) (o11 hpre x0 hx0 y3 x4 hx4 y17)))) (An (fun (y20:decide (0 < (↑(x4.1):Int))=true)=>(An (An (fun (y21:decide (0 < (↑(x4.1):Int))=true)=>y20) tv) (An (o12 hpre x0 hx0 y3 x4 hx4 y20) tv))) (An (fun (y22:decide (0 < (↑(x4.1):Int))=true)=>(An (An (fun (y23:decide (0 < (↑(x4.1):Int))=true)=>y22) (An (fun (y24:decide (0 < (↑(x4.1):Int))=true)=>y22) (An (fun (y25:decide (0 < (↑(x4.1):Int))=true)=>y22) tv))) (An (An (zr (AV.agg (cSday (sdG x4.2 x4.1)))) (An (An (ci (o13 hpre x0 hx0 y3 x4 hx4 y22)) (An (ci (o14 hpre x0 hx0 y3 x4 hx4 y22)) tv)) tv)) (An (t74 (sdG x4.2 x4.1) (sdG x4.2 (x4.1 - 1))) (An (An (o15 hpre x0 hx0 y3 x4 hx4 y22) (o16 hpre x0 hx0 y3 x4 hx4 y22)) (Ak 1 (fun (i26:Env)=>tv))))))) (An (fun (y27:decide (0 < (↑(x4.1):Int))=true)=>(An (An (fun (y28:decide (0 < (↑(x4.1):Int))=true)=>y27) (Ak 1 tv)) tv)) (An (An (fun (y29:decide (0 < (↑(x4.1):Int))=true)=>y29) (fun (y30:decide (0 < (↑(x4.1):Int))=false)=>tv)) tv)))))))))))))) ?_
  refine zI (bif decide (0 < (↑(x4.1):Int)) then decide (cmpD (sdG x4.2 x4.1) (sdG x4.2 (x4.1 - 1)) < 0) else false) (fun y31 => ?_) (fun y31 => ?_)
  ·refine swp_skip ?_
   refine swp_seq ?_
   refine swp_block ?_
   refine zC ([(17,focB)]) [0,1,2,3,8,9] [0] (Ak 4 (An (o17 hpre x0 hx0 y3 x4 hx4 y31) (Ak 2 (An (o18 hpre x0 hx0 y3 x4 hx4 y31) (An (An (o19 hpre x0 hx0 y3 x4 hx4 y31) (o20 hpre x0 hx0 y3 x4 hx4 y31)) (An (An (o21 hpre x0 hx0 y3 x4 hx4 y31) tv) (Ak 2 (An (An (o22 hpre x0 hx0 y3 x4 hx4 y31) (o23 hpre x0 hx0 y3 x4 hx4 y31)) (An (An (o24 hpre x0 hx0 y3 x4 hx4 y31) tv) (An (An (o25 hpre x0 hx0 y3 x4 hx4 y31) (o26 hpre x0 hx0 y3 x4 hx4 y31)) (An (An (o27 hpre x0 hx0 y3 x4 hx4 y31) tv) (An (An (o28 hpre x0 hx0 y3 x4 hx4 y31) (o29 hpre x0 hx0 y3 x4 hx4 y31)) (An (o30 hpre x0 hx0 y3 x4 hx4 y31) tv))))))))))))) ?_
   refine zR [0,1,2,3,8,9] [0] (Ak 1 (An (o31 hpre x0 hx0 y3 x4 hx4 y31) (Ak 1 tv))) ?_
   exact zn (zEn 1 hE [] [(0,.same 0)] [1,2,3,8] [] (An (An (zr (some (Src.same 0))) (An (An (zr (iv 0)) (zr true)) (An (An (zr (iv (↑(ws.length):Int))) (zr true)) (An (An (zr (AV.clo 74 [])) (zr true)) (An (An (zr (iv ((x0:Int) + 1))) (zr true)) (An (An (ci (o32 hpre x0 hx0 y3 x4 hx4 y31)) (zr nilN)) tv)))))) (An (An (An (zr 54) (An (zr 2) (An (zr ws.length) (fun (i32:Nat)=>(fun (y33:i32 < ws.length)=>(o33 hpre x0 hx0 y3 x4 hx4 y31 i32 y33)))))) tv) (An (zr true) (zr true))))) (o34 hpre x0 hx0 y3 x4 hx4 y31) (o35 hpre x0 hx0 y3 x4 hx4 y31)
  ·refine swp_exit ?_
   refine zR [0,1,2,3,8] [0] (Ak 1 (An (o36 hpre x0 hx0 y3 x4 hx4 y31) (Ak 1 tv))) ?_
   exact zn (zEn 1 hE [] [(0,.same 0)] [1,2,3] [] (An (An (zr (some (Src.same 0))) (An (An (zr (iv 0)) (zr true)) (An (An (zr (iv (↑(ws.length):Int))) (zr true)) (An (An (zr (AV.clo 74 [])) (zr true)) (An (An (ci (o37 hpre x0 hx0 y3 x4 hx4 y31)) (zr nilN)) tv))))) (An (An (An (zr 54) (An (zr 2) (An (zr ws.length) (fun (i34:Nat)=>(fun (y35:i34 < ws.length)=>(o38 hpre x0 hx0 y3 x4 hx4 y31 i34 y35)))))) tv) (An (zr true) (zr true))))) (o39 hpre x0 hx0 y3 x4 hx4 y31) (o40 hpre x0 hx0 y3 x4 hx4 y31)
 ·refine swp_exit ?_
  exact zQ (ASt.mk [] [(0,OB.vec 54 2 (sortD ws).length fun (i:Nat)=>cSday ((sortD ws).getD i default))] 100) (zEn 1 hE [] [(0,.same 0)] [] [] (Ak 1 (An (An (An (zr 54) (An (zr 2) (An (o41 hpre x0 hx0 y3) (fun (i36:Nat)=>(fun (y37:i36 < ws.length)=>(o42 hpre x0 hx0 y3 i36 y37)))))) tv) (An (zr true) (zr true))))) (Ak 1 (An (zr (AV.tup [])) (An (zr (some (OB.vec 54 2 (sortD ws).length fun (i:Nat)=>cSday ((sortD ws).getD i default)))) tv)))
theorem okDs_of {l m:List Sday} (h:okDs l) (hl:l.length=m.length) (hm:∀ x,x ∈ m ↔ x ∈ l):okDs m:=by
 intro q hq
 have:sdG m q ∈ l:=(hm _).1 (getD_mem m _ hq)
 obtain ⟨i,hi,e⟩:=List.getElem_of_mem this
 have h1:=h i hi
 unfold sdG at h1
 rw [getD_lt _ _ hi,e] at h1
 exact h1
theorem t100 (b:Nat) (ws:List Sday):Triple Tryz.prog 100 (s100 b ws):=by
  apply wio100 ws (l:=[(0,b)]) (hl:=rfl) (hnd:=by simp)
  all_goals (try delta q23 q24 q25 q26 q27 q28 q29)
  all_goals (intro hp; obtain ⟨p1,p2⟩:=hp)
  case o0=>simp only [inI]; omega
  case o1=>rfl
  case o2=>intro i hi; rfl
  case o3=>exact .inl rfl
  all_goals (intro x hx hl; simp only [decide_eq_true_eq,decide_eq_false_iff_not] at hl)
  case o4=>rfl
  case o5=>exact ⟨Nat.le_refl _,⟨ins_len _ _,okDs_of p2 (ins_len _ _).symm fun z=>by
      rcases Nat.eq_zero_or_pos x with e | e
      · subst e; rfl
      · exact ins_mem _ _ _ (by omega)⟩,rfl⟩
  case o41=>rw [sortD_len]
  case o42 =>
    intro i hi
    have:x=ws.length - 1:=by omega
    subst this; rfl
  all_goals (rintro ⟨j,m⟩ hy; obtain ⟨y1,⟨y2,y3⟩,y4⟩:=hy; simp only at y1 y2 y3 y4 ⊢)
  all_goals (intro hc)
  case o13 | o14 => all_goals (simp only [decide_eq_true_eq] at hc; have e : ((j : Int) - 1).toNat = j - 1 := by omega
                               rw [e])
  case o15 | o16=>all_goals (exact y3 _ (by omega))
  case o6 | o7 | o8 | o10 | o11 | o12=>all_goals (simp only [decide_eq_true_eq] at hc; omega)
  case o9=>simp only [decide_eq_true_eq] at hc; simp only [inI]; omega
  case o36=>simp only [inI]; omega
  case o37=>rfl
  case o38 =>
    intro i hi
    rw [insTo,y4]
    have:bub j m=m:=by
      cases j with
      | zero=>rfl
      | succ j =>
        rw [bub,if_neg]
        intro h
        rw [decide_eq_true (show (0:Int) < ((j + 1:Nat):Int) by omega)] at hc
        rw [show j + 1 - 1=j from rfl,h] at hc
        cases hc
    rw [this]
  case o39=>exact .inr (by omega)
  case o40=>omega
  all_goals (rw [Bool.cond_false_right,Bool.and_eq_true,decide_eq_true_eq,decide_eq_true_eq] at hc; obtain ⟨c1,c2⟩:=hc)
  case o33 =>
    intro i hi
    have e:((j:Int) - 1).toNat=j - 1:=by omega
    rw [e,swL_get (by omega) (by omega) (by omega)]
    refine rec_ei8 (fun h => ?_) (fun h => ?_)
    · refine rec_ei8 (fun h2 => ?_) (fun h2 => ?_)
      · rw [if_neg h2,if_neg h]
      · rw [if_pos h2]; rfl
    · by_cases h2:i=j
      · omega
      · rw [if_neg h2,if_pos h]; rfl
  case o34 =>
    refine ⟨by omega,⟨by rw [swL_len]; exact y2,okDs_of y3 (swL_len _ _).symm fun z=>swL_mem (by omega) (by omega) z⟩,?_⟩
    rw [y4]
    cases j with
    | zero=>omega
    | succ j=>rw [bub,if_pos (by simpa using c2)]; rfl
  all_goals (first | omega | (simp only [inI]; omega))
theorem wio87 (ws:List Sday)
  (o0:ws.length<=12/\okDs ws -> ∀ (x0:Nat),True->inI ((↑(ws.length):Int) - 0))
  (o1:ws.length<=12/\okDs ws -> ∀ (x0:Nat),True->decide ((↑(ws.length):Int) - 0<=12)=true)
  (l:List (Nat × Nat)) (hl:l.map (·.1) = [0]) (hnd:(l.map (·.2)).Nodup) :
  Triple Tryz.prog 87 (IoSpec.at (io87 ws) l):=by
 refine triple_io Tryz.func87 rfl Tryz.call87 T0_ok (io87 ws) 1 l (by rw [hl]; kernel_rfl) hnd (Nat.le_of_ble_eq_true (by kernel_rfl)) (fun _ _ _ _ h=>h) ?_
 intro hpre C hC _ hE
 obtain ⟨P,w0,E0,av,hA,ro,df⟩:=C
 obtain ⟨rfl,rfl,rfl⟩:=hC
 refine swp_seq ?_
 refine zR [0,1,2,3,4,10] [0] (Ak 1 tv) ?_
 refine swp_seq ?_
 refine zR [0,1,2,3,4,10,11] [0] (Ak 1 tv) ?_
 refine swp_block ?_
 refine zL (Hint.ann (h87 ws) [(0,AV.vec 0),(4,AV.clo 74 [])] [(0,OB.vec 54 2 ws.length fun (i:Nat)=>cSday (ws.getD i default))] 10017) (zEn 1 hE [] [(0,.same 0)] [4,1,2,3,10,11] [0] (An (An (zr (some (Src.same 0))) (An (An (zr (AV.clo 74 [])) (zr true)) (An (An (zr (iv 0)) (zr true)) (An (An (zr (iv (↑(ws.length):Int))) (zr true)) (An (An (zr AV.any) (zr true)) (An (An (zr (bv true)) (zr true)) (An (An (zr (bv true)) (zr true)) tv))))))) (An (An (An (zr (OB.vec 54 2 ws.length fun (i:Nat)=>cSday (ws.getD i default))) (zr true)) tv) (An (zr true) (zr true))))) tv (fun (x0:Nat) hx0 => ?_)
 refine swp_block ?_
 refine swp_seq ?_
 refine zR [0,4,1,2,3,10,11,12] [0] (Ak 2 (An (o0 hpre x0 hx0) (Ak 1 tv))) ?_
 refine swp_seq ?_
 refine swp_seq ?_
 refine zR [0,4,1,2,3,10,11,12,25] [0] (Ak 2 tv) ?_
 refine zI (decide ((↑(ws.length):Int) - 0<=12)) (fun _ => ?_) (fun h=>by cases (h.symm.trans (o1 hpre x0 hx0)))
 refine swp_seq ?_
 refine zC ([(4,CallSpec.eq (c87 ws x0) [true,true,true,true])]) [] [0] (Ak 4 (An (An (An (zr (AV.vec 0)) (An (zr (iv 0)) (An (zr (iv (↑(ws.length):Int))) (An (zr (AV.clo 74 [])) tv)))) (An (t100 (0) (ws)) (An (An hpre.1 hpre.2) (An (An (zr (some (OB.vec 54 2 ws.length fun (i:Nat)=>cSday (ws.getD i default)))) tv) (fun (i1:Env)=>tv))))) tv)) ?_
 refine swp_ret ?_
 exact zO (ASt.mk [] [(0,OB.vec 54 2 (sortD ws).length fun (i:Nat)=>cSday ((sortD ws).getD i default))] 100) (zEn 1 hE [] [(0,.same 0)] [] [0] (Ak 1 (An (An (An (zr (OB.vec 54 2 (sortD ws).length fun (i:Nat)=>cSday ((sortD ws).getD i default))) (zr true)) tv) (An (zr true) (zr true))))) (Ak 1 (An (zr (AV.tup [])) (An (zr (some (OB.vec 54 2 (sortD ws).length fun (i:Nat)=>cSday ((sortD ws).getD i default)))) tv)))
theorem t87 (b:Nat) (ws:List Sday):Triple Tryz.prog 87 (s87 b ws):=by
 apply wio87 ws (l:=[(0,b)]) (hl:=rfl) (hnd:=by simp)
 all_goals (intro hp; obtain ⟨p1,p2⟩:=hp)
 all_goals (intros; first | (simp only [inI]; omega) | (rw [decide_eq_true_eq]; omega))
theorem wio73 (ws:List Sday)
  (o0:ws.length<=12/\okDs ws->0<=(↑(ws.length):Int))
  (o1:ws.length<=12/\okDs ws->(↑(ws.length):Int)<=9223372036854775807)
  (o2:ws.length<=12/\okDs ws->0<=(↑(ws.length):Int))
  (o3:ws.length<=12/\okDs ws->(↑(ws.length):Int)<=9223372036854775807)
  (l:List (Nat × Nat)) (hl:l.map (·.1) = [0]) (hnd:(l.map (·.2)).Nodup) :
  Triple Tryz.prog 73 (IoSpec.at (io73 ws) l):=by
 refine triple_io Tryz.func73 rfl Tryz.call73 T0_ok (io73 ws) 1 l (by rw [hl]; kernel_rfl) hnd (Nat.le_of_ble_eq_true (by kernel_rfl)) (fun _ _ _ _ h=>h) ?_
 intro hpre C hC _ hE
 obtain ⟨P,w0,E0,av,hA,ro,df⟩:=C
 obtain ⟨rfl,rfl,rfl⟩:=hC
 refine swp_seq ?_
 refine zR [0,1,4] [0] (Ak 3 tv) ?_
 refine zC ([(4,CallSpec.eq (c73a ws) [true]),(6,CallSpec.eq (c73b ws) [true,true,true,true,true])]) [] [0] (Ak 3 (An (An (o0 hpre) (o1 hpre)) (An (An (An (zr (AV.lit (Value.int IntKind.u64 (↑(ws.length):Int)))) tv) (An (t85 ((↑(ws.length):Int))) (An (An (o2 hpre) (o3 hpre)) (Ak 1 (fun (i0:Env)=>tv))))) (Ak 1 (An (An (An (zr (AV.vec 0)) (An (zr (iv 0)) (An (zr (iv (↑(ws.length):Int))) (An (zr AV.any) (An (zr (AV.clo 74 [])) tv))))) (An (t87 (0) (ws)) (An (An hpre.1 hpre.2) (An (An (zr (some (OB.vec 54 2 ws.length fun (i:Nat)=>cSday (ws.getD i default)))) tv) (fun (i1:Env)=>tv))))) tv))))) ?_
 exact zQ (ASt.mk [] [(0,OB.vec 54 2 (sortD ws).length fun (i:Nat)=>cSday ((sortD ws).getD i default))] 100) (zEn 1 hE [] [(0,.same 0)] [] [0] (Ak 1 (An (An (An (zr (OB.vec 54 2 (sortD ws).length fun (i:Nat)=>cSday ((sortD ws).getD i default))) (zr true)) tv) (An (zr true) (zr true))))) (Ak 1 (An (zr (AV.tup [])) (An (zr (some (OB.vec 54 2 (sortD ws).length fun (i:Nat)=>cSday ((sortD ws).getD i default)))) tv)))
theorem t73 (b:Nat) (ws:List Sday):Triple Tryz.prog 73 (s73 b ws):=by
 apply wio73 ws (l:=[(0,b)]) (hl:=rfl) (hnd:=by simp)
 all_goals (intro hp; obtain ⟨p1,p2⟩:=hp; omega)
abbrev q2a (ws:List Sday) (P:Prop):Prop:=ws.length<=65536->P
abbrev q2b (ws:List Sday) (P:Prop):Prop:=q2a ws (decide ((↑(ws.length):Int) < 2)=false->P)
abbrev q2c (ws:List Sday) (x3:Nat) (P:Prop):Prop:=(1<=x3/\x3<=ws.length /\ ∀ (j:Nat),j < x3->newAt default ws j=true)->P
abbrev q2d (ws:List Sday) (x3:Nat) (P:Prop):Prop:=q2c ws x3 (decide ((x3:Int) < (↑(ws.length):Int))=true->P)
abbrev q2e (ws:List Sday) (x3:Nat) (P:Prop):Prop:=q2d ws x3 ((decide ((ws.getD x3 default).ad=(ws.getD ((x3:Int) - 1).toNat default).ad) && (decide ((ws.getD x3 default).day=(ws.getD ((x3:Int) - 1).toNat default).day) && true))=true->P)
abbrev q2f (ws:List Sday) (x3:Nat) (x6:Nat) (P:Prop):Prop:=1<=x6/\x3 + x6<=ws.length->P
abbrev q2g (ws:List Sday) (x3:Nat) (x6:Nat) (P:Prop):Prop:=q2f ws x3 x6 (decide ((x6:Int) < (↑(ws.length - x3):Int))=true->P)
abbrev q2h (ws:List Sday) (x3:Nat) (x6:Nat) (P:Prop):Prop:=q2g ws x3 x6 ((!(decide ((rowK default ws (x3 + x6) (x3 + x6)).ad=(rowK default ws (x3 + x6) (x3 + ((x6:Int) - 1).toNat)).ad) && (decide ((rowK default ws (x3 + x6) (x3 + x6)).day=(rowK default ws (x3 + x6) (x3 + ((x6:Int) - 1).toNat)).day) && true)))=true->P)
abbrev q2i (ws:List Sday) (x3:Nat) (x6:Nat) (P:Prop):Prop:=q2g ws x3 x6 ((!(decide ((rowK default ws (x3 + x6) (x3 + x6)).ad=(rowK default ws (x3 + x6) (x3 + ((x6:Int) - 1).toNat)).ad) && (decide ((rowK default ws (x3 + x6) (x3 + x6)).day=(rowK default ws (x3 + x6) (x3 + ((x6:Int) - 1).toNat)).day) && true)))=false->P)
abbrev q2j (ws:List Sday) (x3:Nat) (x6:Nat) (P:Prop):Prop:=q2f ws x3 x6 (decide ((x6:Int) < (↑(ws.length - x3):Int))=false->P)
abbrev q2k (ws:List Sday) (x3:Nat) (P:Prop):Prop:=q2d ws x3 ((decide ((ws.getD x3 default).ad=(ws.getD ((x3:Int) - 1).toNat default).ad) && (decide ((ws.getD x3 default).day=(ws.getD ((x3:Int) - 1).toNat default).day) && true))=false->P)
theorem wio76 (ws:List Sday)
 (o0:q2a ws (decide ((↑(ws.length):Int) < 2)=true->ws.length=(cpL default ws).length))
 (o1:q2a ws (decide ((↑(ws.length):Int) < 2)=true -> ∀ (i1:Nat),i1 < (cpL default ws).length->cSday (ws.getD i1 default)=cSday ((cpL default ws).getD i1 default)))
 (o2:q2b ws (1=(↑1:Int)))
 (o3:q2b ws (1<=1/\1<=ws.length /\ ∀ (j:Nat),j < 1->newAt default ws j=true))
 (o4:q2b ws (∀ (x3:Nat),q2d ws x3 (0<=(x3:Int))))
 (o5:q2b ws (∀ (x3:Nat),q2d ws x3 ((x3:Int) < (↑(ws.length):Int))))
 (o6:q2b ws (∀ (x3:Nat),q2d ws x3 (x3 < ws.length)))
 (o7:q2b ws (∀ (x3:Nat),q2d ws x3 (inI ((x3:Int) - 1))))
 (o8:q2b ws (∀ (x3:Nat),q2d ws x3 (0<=(x3:Int) - 1)))
 (o9:q2b ws (∀ (x3:Nat),q2d ws x3 ((x3:Int) - 1 < (↑(ws.length):Int))))
 (o10:q2b ws (∀ (x3:Nat),q2d ws x3 (((x3:Int) - 1).toNat < ws.length)))
 (o11:q2b ws (∀ (x3:Nat),q2e ws x3 (0<=(x3:Int))))
 (o12:q2b ws (∀ (x3:Nat),q2e ws x3 ((x3:Int) < (↑(ws.length):Int))))
 (o13:q2b ws (∀ (x3:Nat),q2e ws x3 ((x3:Int)=(↑((cpTo default ws (x3 + 1)).length):Int))))
 (o14:q2b ws (∀ (x3:Nat),q2e ws x3 (1=(↑1:Int))))
 (o15:q2b ws (∀ (x3:Nat),q2e ws x3 (∀ (i7:Nat),i7 < ws.length->cSday (ws.getD i7 default)=cSday (rowK default ws (x3 + 1) i7))))
 (o16:q2b ws (∀ (x3:Nat),q2e ws x3 (1<=1/\x3 + 1<=ws.length)))
 (o17:q2b ws (∀ (x3:Nat),q2e ws x3 (∀ (x6:Nat),q2g ws x3 x6 (0<=(x6:Int)))))
 (o18:q2b ws (∀ (x3:Nat),q2e ws x3 (∀ (x6:Nat),q2g ws x3 x6 ((x6:Int) < (↑(ws.length - x3):Int)))))
 (o19:q2b ws (∀ (x3:Nat),q2e ws x3 (∀ (x6:Nat),q2g ws x3 x6 (x3 + (ws.length - x3)<=ws.length))))
 (o20:q2b ws (∀ (x3:Nat),q2e ws x3 (∀ (x6:Nat),q2g ws x3 x6 (x3 + x6 < ws.length))))
 (o21:q2b ws (∀ (x3:Nat),q2e ws x3 (∀ (x6:Nat),q2g ws x3 x6 (inI ((x6:Int) - 1)))))
 (o22:q2b ws (∀ (x3:Nat),q2e ws x3 (∀ (x6:Nat),q2g ws x3 x6 (0<=(x6:Int) - 1))))
 (o23:q2b ws (∀ (x3:Nat),q2e ws x3 (∀ (x6:Nat),q2g ws x3 x6 ((x6:Int) - 1 < (↑(ws.length - x3):Int)))))
 (o24:q2b ws (∀ (x3:Nat),q2e ws x3 (∀ (x6:Nat),q2g ws x3 x6 (x3 + (ws.length - x3)<=ws.length))))
 (o25:q2b ws (∀ (x3:Nat),q2e ws x3 (∀ (x6:Nat),q2g ws x3 x6 (x3 + ((x6:Int) - 1).toNat < ws.length))))
 (o26:q2b ws (∀ (x3:Nat),q2e ws x3 (∀ (x6:Nat),q2h ws x3 x6 (0<=(x6:Int)))))
 (o27:q2b ws (∀ (x3:Nat),q2e ws x3 (∀ (x6:Nat),q2h ws x3 x6 ((x6:Int) < (↑(ws.length - x3):Int)))))
 (o28:q2b ws (∀ (x3:Nat),q2e ws x3 (∀ (x6:Nat),q2h ws x3 x6 (x3 + (ws.length - x3)<=ws.length))))
 (o29:q2b ws (∀ (x3:Nat),q2e ws x3 (∀ (x6:Nat),q2h ws x3 x6 (x3 + x6 < ws.length))))
 (o30:q2b ws (∀ (x3:Nat),q2e ws x3 (∀ (x6:Nat),q2h ws x3 x6 (0<=(↑((cpTo default ws (x3 + x6)).length):Int)))))
 (o31:q2b ws (∀ (x3:Nat),q2e ws x3 (∀ (x6:Nat),q2h ws x3 x6 ((↑((cpTo default ws (x3 + x6)).length):Int) < (↑(ws.length):Int)))))
 (o32:q2b ws (∀ (x3:Nat),q2e ws x3 (∀ (x6:Nat),q2h ws x3 x6 ((cpTo default ws (x3 + x6)).length < ws.length))))
 (o33:q2b ws (∀ (x3:Nat),q2e ws x3 (∀ (x6:Nat),q2h ws x3 x6 (inI ((↑((cpTo default ws (x3 + x6)).length):Int) + 1)))))
 (o34:q2b ws (∀ (x3:Nat),q2e ws x3 (∀ (x6:Nat),q2h ws x3 x6 (inI ((x6:Int) + 1)))))
 (o35:q2b ws (∀ (x3:Nat),q2e ws x3 (∀ (x6:Nat),q2h ws x3 x6 ((↑((cpTo default ws (x3 + x6)).length):Int) + 1=(↑((cpTo default ws (x3 + (x6 + 1))).length):Int)))))
 (o36:q2b ws (∀ (x3:Nat),q2e ws x3 (∀ (x6:Nat),q2h ws x3 x6 ((x6:Int) + 1=(↑(x6 + 1):Int)))))
 (o37:q2b ws (∀ (x3:Nat),q2e ws x3 (∀ (x6:Nat),q2h ws x3 x6 (∀ (i11:Nat),i11 < ws.length->Decidable.rec (fun (h:¬i11=(cpTo default ws (x3 + x6)).length)=>cSday (rowK default ws (x3 + x6) i11)) (fun (h:i11=(cpTo default ws (x3 + x6)).length)=>[iv (rowK default ws (x3 + x6) (x3 + x6)).ad,iv (rowK default ws (x3 + x6) (x3 + x6)).day] ++ []) (instDecidableEqNat i11 (cpTo default ws (x3 + x6)).length)=cSday (rowK default ws (x3 + (x6 + 1)) i11)))))
 (o38:q2b ws (∀ (x3:Nat),q2e ws x3 (∀ (x6:Nat),q2h ws x3 x6 (1<=x6 + 1/\x3 + (x6 + 1)<=ws.length))))
 (o39:q2b ws (∀ (x3:Nat),q2e ws x3 (∀ (x6:Nat),q2h ws x3 x6 (ws.length - (x6 + 1) < ws.length - x6))))
 (o40:q2b ws (∀ (x3:Nat),q2e ws x3 (∀ (x6:Nat),q2i ws x3 x6 (inI ((x6:Int) + 1)))))
 (o41:q2b ws (∀ (x3:Nat),q2e ws x3 (∀ (x6:Nat),q2i ws x3 x6 ((↑((cpTo default ws (x3 + x6)).length):Int)=(↑((cpTo default ws (x3 + (x6 + 1))).length):Int)))))
 (o42:q2b ws (∀ (x3:Nat),q2e ws x3 (∀ (x6:Nat),q2i ws x3 x6 ((x6:Int) + 1=(↑(x6 + 1):Int)))))
 (o43:q2b ws (∀ (x3:Nat),q2e ws x3 (∀ (x6:Nat),q2i ws x3 x6 (∀ (i13:Nat),i13 < ws.length->cSday (rowK default ws (x3 + x6) i13)=cSday (rowK default ws (x3 + (x6 + 1)) i13)))))
 (o44:q2b ws (∀ (x3:Nat),q2e ws x3 (∀ (x6:Nat),q2i ws x3 x6 (1<=x6 + 1/\x3 + (x6 + 1)<=ws.length))))
 (o45:q2b ws (∀ (x3:Nat),q2e ws x3 (∀ (x6:Nat),q2i ws x3 x6 (ws.length - (x6 + 1) < ws.length - x6))))
 (o46:q2b ws (∀ (x3:Nat),q2e ws x3 (∀ (x6:Nat),q2j ws x3 x6 (0<=(↑((cpTo default ws (x3 + x6)).length):Int)))))
 (o47:q2b ws (∀ (x3:Nat),q2e ws x3 (∀ (x6:Nat),q2j ws x3 x6 ((↑((cpTo default ws (x3 + x6)).length):Int) < (↑(ws.length):Int)))))
 (o48:q2b ws (∀ (x3:Nat),q2e ws x3 (∀ (x6:Nat),q2j ws x3 x6 ((cpTo default ws (x3 + x6)).length + (ws.length - (cpTo default ws (x3 + x6)).length)=ws.length))))
 (o49:q2b ws (∀ (x3:Nat),q2e ws x3 (∀ (x6:Nat),q2j ws x3 x6 (0 < ws.length - (cpTo default ws (x3 + x6)).length))))
 (o50:q2b ws (∀ (x3:Nat),q2e ws x3 (∀ (x6:Nat),q2j ws x3 x6 (∀ (i15:Nat),i15 < ws.length->Decidable.rec (fun (h:¬i15 < (cpTo default ws (x3 + x6)).length)=>[iv 0,iv 0]) (fun (h:i15 < (cpTo default ws (x3 + x6)).length)=>cSday (rowK default ws (x3 + x6) i15)) (Nat.decLt i15 (cpTo default ws (x3 + x6)).length)=endK ws i15))))
 (o51:q2b ws (∀ (x3:Nat),q2e ws x3 (∀ (x6:Nat),q2j ws x3 x6 (0<=(↑((cpTo default ws (x3 + x6)).length):Int)))))
 (o52:q2b ws (∀ (x3:Nat),q2e ws x3 (∀ (x6:Nat),q2j ws x3 x6 ((↑((cpTo default ws (x3 + x6)).length):Int)<=(↑(ws.length):Int)))))
 (o53:q2b ws (∀ (x3:Nat),q2e ws x3 (∀ (x6:Nat),q2j ws x3 x6 ((cpTo default ws (x3 + x6)).length=(cpL default ws).length))))
 (o54:q2b ws (∀ (x3:Nat),q2e ws x3 (∀ (x6:Nat),q2j ws x3 x6 (∀ (i19:Nat),i19 < (cpL default ws).length->endK ws i19=cSday ((cpL default ws).getD i19 default)))))
 (o55:q2b ws (∀ (x3:Nat),q2k ws x3 (inI ((x3:Int) + 1))))
 (o56:q2b ws (∀ (x3:Nat),q2k ws x3 ((x3:Int) + 1=(↑(x3 + 1):Int))))
 (o57:q2b ws (∀ (x3:Nat),q2k ws x3 (1<=x3 + 1/\x3 + 1<=ws.length /\ ∀ (j:Nat),j < x3 + 1->newAt default ws j=true)))
 (o58:q2b ws (∀ (x3:Nat),q2k ws x3 (ws.length - (x3 + 1) < ws.length - x3)))
 (o59:q2b ws (∀ (x3:Nat),q2c ws x3 (decide ((x3:Int) < (↑(ws.length):Int))=false->ws.length=(cpL default ws).length)))
 (o60:q2b ws (∀ (x3:Nat),q2c ws x3 (decide ((x3:Int) < (↑(ws.length):Int))=false -> ∀ (i21:Nat),i21 < (cpL default ws).length->cSday (ws.getD i21 default)=cSday ((cpL default ws).getD i21 default))))
  (l:List (Nat × Nat)) (hl:l.map (·.1) = [0]) (hnd:(l.map (·.2)).Nodup) :
  Triple Tryz.prog 76 (IoSpec.at (io76 ws) l):=by
 refine triple_io Tryz.func76 rfl Tryz.call76 T0_ok (io76 ws) 1 l (by rw [hl]; kernel_rfl) hnd (Nat.le_of_ble_eq_true (by kernel_rfl)) (fun _ _ _ _ h=>h) ?_
 intro hpre C hC _ hE
 obtain ⟨P,w0,E0,av,hA,ro,df⟩:=C
 obtain ⟨rfl,rfl,rfl⟩:=hC
 refine swp_seq ?_
 refine zR [0] [0] (Ak 1 tv) ?_
 refine swp_seq ?_
 refine swp_seq ?_
 refine zR [0,8] [0] (Ak 3 tv) ?_
 refine zI (decide ((↑(ws.length):Int) < 2)) (fun y0 => ?_) (fun y0 => ?_)
 ·refine swp_seq ?_
  refine zR [2] [0] (Ak 2 tv) ?_
  refine swp_ret ?_
  exact zO (ASt.mk [(2,aDays (cpL default ws))] [] 100) (zEn 1 hE [0] [] [] [] (An (An (An (zr 2) (An (o0 hpre y0) (fun (i1:Nat)=>(fun (y2:i1 < (cpL default ws).length)=>(o1 hpre y0 i1 y2))))) tv) (Ak 1 (An (zr true) (zr true))))) (An (Ak 1 tv) (An (zr (aDays (cpL default ws))) tv))
 ·refine swp_skip ?_
  refine swp_seq ?_
  refine swp_seq ?_
  refine zR [0,3] [0] (Ak 1 tv) ?_
  refine swp_block ?_
  refine zL (Hint.ann (h76a ws) [(0,AV.vec 0)] [(0,OB.vec 54 2 ws.length fun (i:Nat)=>cSday (ws.getD i default))] 10041) (zEn 1 hE [] [(0,.same 0)] [] [0] (An (An (zr (some (Src.same 0))) (An (An (ci (o2 hpre y0)) (zr nilN)) tv)) (An (An (An (zr (OB.vec 54 2 ws.length fun (i:Nat)=>cSday (ws.getD i default))) (zr true)) tv) (An (zr true) (zr true))))) (o3 hpre y0) (fun (x3:Nat) hx3 => ?_)
  refine swp_seq ?_
  refine swp_seq ?_
  refine zR [0,3,13] [0] (Ak 4 tv) ?_
  refine zI (decide ((x3:Int) < (↑(ws.length):Int))) (fun y4 => ?_) (fun y4 => ?_)
  ·refine swp_skip ?_
   refine swp_seq ?_
   refine swp_block ?_
   refine swp_seq ?_
   refine zR [0,3,25] [0] (Ak 2 (An (An (o4 hpre y0 x3 hx3 y4) (o5 hpre y0 x3 hx3 y4)) (An (An (o6 hpre y0 x3 hx3 y4) tv) (Ak 2 (An (o7 hpre y0 x3 hx3 y4) (An (An (o8 hpre y0 x3 hx3 y4) (o9 hpre y0 x3 hx3 y4)) (An (An (o10 hpre y0 x3 hx3 y4) tv) (Ak 1 tv)))))))) ?_
   refine zI (decide ((ws.getD x3 default).ad=(ws.getD ((x3:Int) - 1).toNat default).ad) && (decide ((ws.getD x3 default).day=(ws.getD ((x3:Int) - 1).toNat default).day) && true)) (fun y5 => ?_) (fun y5 => ?_)
   ·refine swp_seq ?_
    refine zR [0,3,4] [0] (Ak 2 (An (An (o11 hpre y0 x3 hx3 y4 y5) (o12 hpre y0 x3 hx3 y4 y5)) (Ak 1 tv))) ?_
    refine swp_seq ?_
    refine swp_seq ?_
    refine zR [0,3,4,5] [0] (Ak 1 tv) ?_
    refine swp_block ?_
    refine zL (Hint.ann (h76b ws x3) [(0,AV.vec 0),(4,AV.win 0 [PS.idx x3 2] 2 (ws.length - x3))] [] 20193) (zEn 1 hE [] [(0,.same 0)] [] [] (An (An (zr (some (Src.same 0))) (An (An (zr (some (Src.same 0))) (An (zr ([PS.idx x3 2])) (An (zr 2) (zr (ws.length - x3))))) (An (An (ci (o13 hpre y0 x3 hx3 y4 y5)) (zr nilN)) (An (An (ci (o14 hpre y0 x3 hx3 y4 y5)) (zr nilN)) tv)))) (An (An (An (zr 54) (An (zr 2) (An (zr ws.length) (fun (i7:Nat)=>(fun (y8:i7 < ws.length)=>(o15 hpre y0 x3 hx3 y4 y5 i7 y8)))))) tv) (An (zr true) (zr true))))) (o16 hpre y0 x3 hx3 y4 y5) (fun (x6:Nat) hx6 => ?_)
    refine swp_seq ?_
    refine swp_seq ?_
    refine zR [0,4,3,5,32] [0] (Ak 4 tv) ?_
    refine zI (decide ((x6:Int) < (↑(ws.length - x3):Int))) (fun y9 => ?_) (fun y9 => ?_)
    ·refine swp_skip ?_
     refine swp_seq ?_
     refine swp_block ?_
     refine swp_seq ?_
     refine zR [0,4,3,5,44] [0] (Ak 2 (An (An (o17 hpre y0 x3 hx3 y4 y5 x6 hx6 y9) (An (o18 hpre y0 x3 hx3 y4 y5 x6 hx6 y9) (o19 hpre y0 x3 hx3 y4 y5 x6 hx6 y9))) (An (An (o20 hpre y0 x3 hx3 y4 y5 x6 hx6 y9) tv) (Ak 2 (An (o21 hpre y0 x3 hx3 y4 y5 x6 hx6 y9) (An (An (o22 hpre y0 x3 hx3 y4 y5 x6 hx6 y9) (An (o23 hpre y0 x3 hx3 y4 y5 x6 hx6 y9) (o24 hpre y0 x3 hx3 y4 y5 x6 hx6 y9))) (An (An (o25 hpre y0 x3 hx3 y4 y5 x6 hx6 y9) tv) (Ak 1 tv)))))))) ?_
     refine zI (!(decide ((rowK default ws (x3 + x6) (x3 + x6)).ad=(rowK default ws (x3 + x6) (x3 + ((x6:Int) - 1).toNat)).ad) && (decide ((rowK default ws (x3 + x6) (x3 + x6)).day=(rowK default ws (x3 + x6) (x3 + ((x6:Int) - 1).toNat)).day) && true))) (fun y10 => ?_) (fun y10 => ?_)
     ·refine swp_seq ?_
      refine zR [0,4,3,5] [0] (Ak 4 (An (An (o26 hpre y0 x3 hx3 y4 y5 x6 hx6 y9 y10) (An (o27 hpre y0 x3 hx3 y4 y5 x6 hx6 y9 y10) (o28 hpre y0 x3 hx3 y4 y5 x6 hx6 y9 y10))) (An (An (o29 hpre y0 x3 hx3 y4 y5 x6 hx6 y9 y10) tv) (An (An (o30 hpre y0 x3 hx3 y4 y5 x6 hx6 y9 y10) (o31 hpre y0 x3 hx3 y4 y5 x6 hx6 y9 y10)) (An (An (o32 hpre y0 x3 hx3 y4 y5 x6 hx6 y9 y10) tv) tv))))) ?_
      refine zR [0,4,3,5] [0] (Ak 1 (An (o33 hpre y0 x3 hx3 y4 y5 x6 hx6 y9 y10) (Ak 1 tv))) ?_
      refine zR [0,4,3,5] [0] (Ak 1 (An (o34 hpre y0 x3 hx3 y4 y5 x6 hx6 y9 y10) (Ak 1 tv))) ?_
      exact zn (zEn 1 hE [] [(0,.same 0)] [] [] (An (An (zr (some (Src.same 0))) (An (An (zr (some (Src.same 0))) (An (zr ([PS.idx x3 2])) (An (zr 2) (zr (ws.length - x3))))) (An (An (ci (o35 hpre y0 x3 hx3 y4 y5 x6 hx6 y9 y10)) (zr nilN)) (An (An (ci (o36 hpre y0 x3 hx3 y4 y5 x6 hx6 y9 y10)) (zr nilN)) tv)))) (An (An (An (zr 54) (An (zr 2) (An (zr ws.length) (fun (i11:Nat)=>(fun (y12:i11 < ws.length)=>(o37 hpre y0 x3 hx3 y4 y5 x6 hx6 y9 y10 i11 y12)))))) tv) (An (zr true) (zr true))))) (o38 hpre y0 x3 hx3 y4 y5 x6 hx6 y9 y10) (o39 hpre y0 x3 hx3 y4 y5 x6 hx6 y9 y10)
     ·refine swp_skip ?_
      refine zR [0,4,3,5] [0] (Ak 1 (An (o40 hpre y0 x3 hx3 y4 y5 x6 hx6 y9 y10) (Ak 1 tv))) ?_
      exact zn (zEn 1 hE [] [(0,.same 0)] [] [] (An (An (zr (some (Src.same 0))) (An (An (zr (some (Src.same 0))) (An (zr ([PS.idx x3 2])) (An (zr 2) (zr (ws.length - x3))))) (An (An (ci (o41 hpre y0 x3 hx3 y4 y5 x6 hx6 y9 y10)) (zr nilN)) (An (An (ci (o42 hpre y0 x3 hx3 y4 y5 x6 hx6 y9 y10)) (zr nilN)) tv)))) (An (An (An (zr 54) (An (zr 2) (An (zr ws.length) (fun (i13:Nat)=>(fun (y14:i13 < ws.length)=>(o43 hpre y0 x3 hx3 y4 y5 x6 hx6 y9 y10 i13 y14)))))) tv) (An (zr true) (zr true))))) (o44 hpre y0 x3 hx3 y4 y5 x6 hx6 y9 y10) (o45 hpre y0 x3 hx3 y4 y5 x6 hx6 y9 y10)
    ·refine swp_exit ?_
     refine swp_seq ?_
     refine zR [0,3] [0] (Ak 2 (An (An (o46 hpre y0 x3 hx3 y4 y5 x6 hx6 y9) (o47 hpre y0 x3 hx3 y4 y5 x6 hx6 y9)) (An (An (o48 hpre y0 x3 hx3 y4 y5 x6 hx6 y9) (o49 hpre y0 x3 hx3 y4 y5 x6 hx6 y9)) tv))) ?_
     refine swp_seq ?_
     refine swp_ent (zEn (st2:=ASt.mk [(0,AV.vec 0),(3,iv (↑((cpTo default ws (x3 + x6)).length):Int))] [(0,OB.vec 54 2 ws.length fun (q:Nat)=>endK ws q)] 20257) 1 hE [] [(0,.same 0)] [3] [] (An (An (zr (some (Src.same 0))) (An (An (zr (iv (↑((cpTo default ws (x3 + x6)).length):Int))) (zr true)) tv)) (An (An (An (zr 54) (An (zr 2) (An (zr ws.length) (fun (i15:Nat)=>(fun (y16:i15 < ws.length)=>(o50 hpre y0 x3 hx3 y4 y5 x6 hx6 y9 i15 y16)))))) tv) (An (zr true) (zr true))))) ?_
     refine swp_ent (zEn (st2:=ASt.mk [(0,AV.sl 2 ws.length fun (q:Nat)=>endK ws q),(3,iv (↑((cpTo default ws (x3 + x6)).length):Int))] [] 20257) 1 hE [0] [] [3] [] (An (An (An (zr 2) (An (zr ws.length) (fun (i17:Nat)=>(fun (y18:i17 < ws.length)=>(zr (endK ws i17)))))) (An (An (zr (iv (↑((cpTo default ws (x3 + x6)).length):Int))) (zr true)) tv)) (Ak 1 (An (zr true) (zr true))))) ?_
     refine zR [2] [] (Ak 2 (An (An (o51 hpre y0 x3 hx3 y4 y5 x6 hx6 y9) (o52 hpre y0 x3 hx3 y4 y5 x6 hx6 y9)) (Ak 1 tv))) ?_
     refine swp_ret ?_
     exact zO (ASt.mk [(2,aDays (cpL default ws))] [] 100) (zEn 1 hE [] [] [] [] (An (An (An (zr 2) (An (o53 hpre y0 x3 hx3 y4 y5 x6 hx6 y9) (fun (i19:Nat)=>(fun (y20:i19 < (cpL default ws).length)=>(o54 hpre y0 x3 hx3 y4 y5 x6 hx6 y9 i19 y20))))) tv) (Ak 1 (An (zr true) (zr true))))) (An (Ak 1 tv) (An (zr (aDays (cpL default ws))) tv))
   ·refine swp_skip ?_
    refine zR [0,3] [0] (Ak 1 (An (o55 hpre y0 x3 hx3 y4 y5) (Ak 1 tv))) ?_
    exact zn (zEn 1 hE [] [(0,.same 0)] [] [0] (An (An (zr (some (Src.same 0))) (An (An (ci (o56 hpre y0 x3 hx3 y4 y5)) (zr nilN)) tv)) (An (An (An (zr (OB.vec 54 2 ws.length fun (i:Nat)=>cSday (ws.getD i default))) (zr true)) tv) (An (zr true) (zr true))))) (o57 hpre y0 x3 hx3 y4 y5) (o58 hpre y0 x3 hx3 y4 y5)
  ·refine swp_exit ?_
   refine swp_seq ?_
   refine zR [2] [0] (Ak 2 tv) ?_
   refine swp_ret ?_
   exact zO (ASt.mk [(2,aDays (cpL default ws))] [] 100) (zEn 1 hE [0] [] [] [] (An (An (An (zr 2) (An (o59 hpre y0 x3 hx3 y4) (fun (i21:Nat)=>(fun (y22:i21 < (cpL default ws).length)=>(o60 hpre y0 x3 hx3 y4 i21 y22))))) tv) (Ak 1 (An (zr true) (zr true))))) (An (Ak 1 tv) (An (zr (aDays (cpL default ws))) tv))
theorem cpTo_lt {α:Type} [DecidableEq α] {d:α} {l:List α} {x:Nat} (h:newAt d l x=false):∀ {n:Nat},x < n->(cpTo d l n).length < n:=by
 intro n
 induction n with
 | zero=>intro h; omega
 | succ n ih =>
  intro hx
  by_cases e:x=n
  ·subst e; rw [cpTo_f h]; have:=cpTo_len d l x; omega
  ·have h1:=ih (by omega)
   cases h2:newAt d l n with
   | true=>rw [cpTo_t h2,List.length_append]; simp; omega
   | false=>rw [cpTo_f h2]; omega
theorem new_first {α:Type} [DecidableEq α] {d:α} {l:List α}:∀ j,j < 1->newAt d l j=true:=by
 intro j hj
 have:j=0:=by omega
 subst this; rfl
theorem t76 (b:Nat) (ws:List Sday):Triple Tryz.prog 76 (s76 b ws):=by
  apply wio76 ws (l:=[(0,b)]) (hl:=rfl) (hnd:=by simp)
  all_goals (try delta q2a q2b q2c q2d q2e q2f q2g q2h q2i q2j q2k)
  all_goals (intro hp hc; simp only [decide_eq_true_eq,decide_eq_false_iff_not] at hc)
  case o0=>rw [cpL_id fun j hj=>new_first j (by omega)]
  case o1=>intro i hi; rw [cpL_id fun j hj=>new_first j (by omega)]
  case o2=>rfl
  case o3=>exact ⟨by omega,by omega,new_first⟩
  all_goals (intro x hx; obtain ⟨x1,x2,x3⟩:=hx; intro hl; simp only [decide_eq_true_eq,decide_eq_false_iff_not] at hl)
  case o59=>rw [cpL_id fun j hj=>x3 j (by omega)]
  case o60=>intro i hi; rw [cpL_id fun j hj=>x3 j (by omega)]
  case o4 | o5 | o6 | o8 | o9 | o10=>all_goals omega
  case o7=>simp only [inI]; omega
  all_goals (have ex:((x:Int) - 1).toNat=x - 1:=by omega)
  all_goals (rw [ex,sday_eq]; intro hd)
  case o57=>exact ⟨by omega,by omega,lt_succ_cases x3 (by rw [newAt_pos (by omega)]; simp only [decide_eq_false_iff_not] at hd; simp only [Bool.not_eq_true',decide_eq_false_iff_not]; exact fun e=>hd e.symm)⟩
  case o55=>simp only [inI]; omega
  case o56=>rfl
  case o58=>omega
  all_goals (have hn:newAt default ws x=false:=by rw [newAt_pos (by omega)]; simp only [decide_eq_true_eq] at hd; simp only [Bool.not_eq_false',decide_eq_true_eq]; exact hd.symm)
  all_goals (have hc1:cpTo default ws (x + 1)=ws.take x:=by rw [cpTo_f hn,cpTo_first (by omega) x3])
  case o11 | o12=>all_goals omega
  case o13=>rw [hc1,List.length_take]; omega
  case o14=>rfl
  case o15 =>
    intro i hi
    unfold rowK
    rw [hc1]
    split
    · rename_i h; rw [List.length_take] at h; rw [take_getD _ _ (by omega)]
    · rfl
  case o16=>exact ⟨Nat.le_refl _,by omega⟩
  all_goals (intro k hk; obtain ⟨k1,k2⟩:=hk; intro hkl; simp only [decide_eq_true_eq,decide_eq_false_iff_not] at hkl)
  all_goals (have hlt:=cpTo_lt hn (n:=x + k) (by omega))
  case o50 =>
    have hall:x + k=ws.length:=by omega
    intro i hi
    rw [hall]
    refine rec_lt8 (fun h=>(endK_ge h).symm) (fun h => ?_)
    rw [endK_lt h]
    unfold rowK
    rw [if_pos h]; rfl
  case o53 => have hall : x + k = ws.length := by omega
              rw [hall]; rfl
  case o54=>intro i hi; rw [endK_lt hi]
  all_goals (try (first | omega | (simp only [inI]; omega)))
  all_goals (have ek:((k:Int) - 1).toNat=k - 1:=by omega)
  all_goals (rw [ek,rowK_far (Nat.le_refl _),rowK_past (show (cpTo default ws (x + k)).length<=x + (k - 1) by omega),sday_eq])
  all_goals (intro hd2)
  all_goals (try (first | omega | (simp only [inI]; omega) | rfl))
  all_goals (have exk:x + (k - 1)=x + k - 1:=by omega)
  all_goals (rw [exk] at hd2)
  case o35 =>
    have:newAt default ws (x + k)=true:=by rw [newAt_pos (by omega)]; simp only [Bool.not_eq_true',decide_eq_false_iff_not] at hd2 ⊢; exact fun e=>hd2 e.symm
    rw [← Nat.add_assoc,cpTo_t this,List.length_append]; rfl
  case o37 =>
    have:newAt default ws (x + k)=true:=by rw [newAt_pos (by omega)]; simp only [Bool.not_eq_true',decide_eq_false_iff_not] at hd2 ⊢; exact fun e=>hd2 e.symm
    intro i hi
    rw [← Nat.add_assoc,rowK_t this]
    exact rec_ei8 (fun h=>by rw [if_neg h]) (fun h=>by rw [if_pos h]; rfl)
  case o41 =>
    have:newAt default ws (x + k)=false:=by rw [newAt_pos (by omega)]; simp only [Bool.not_eq_false',decide_eq_true_eq] at hd2 ⊢; exact hd2.symm
    rw [← Nat.add_assoc,cpTo_f this]
  case o43 =>
    have:newAt default ws (x + k)=false:=by rw [newAt_pos (by omega)]; simp only [Bool.not_eq_false',decide_eq_true_eq] at hd2 ⊢; exact hd2.symm
    intro i hi
    rw [← Nat.add_assoc,rowK_f this]
  all_goals (constructor <;> omega)
end Go.Ab
namespace Go.Sh
open Go.Ab
def notL (n:Int):Bool := !within n 0 9
def idxL (l:List Int):Int:=match l.findIdx? notL with | some i=>i | none => -1
def okDk (k:Nat) (d:Desk):Prop:=(∀ i,-10 * (k:Int)<=d.room i/\d.room i<=99)/\(∀ i,0<=d.used i/\d.used i<=k)/\0<=d.cost/\d.cost<=99 * (k:Int)
def sitTo (b:Book) (n:Nat) (i:Nat):Int:=if i < n then (ctB b i).room else 0
end Go.Sh
namespace Go.En
open Go Go.Ab Go.Sh
def cDk (b:Book) (ls:List Int) (d:Desk):List AV:=[vWk b,aInts ls,.arr 1 3 (fun i=>[iv (d.room i)]),.arr 1 3 (fun i=>[iv (d.used i)]),iv d.cost]
abbrev vDk (b:Book) (ls:List Int) (d:Desk):AV := .agg (cDk b ls d)
end Go.En
namespace Go.Ab
open Go Go.RowKit Go.Proofs Go.Sh Go.En
def s83c (l:List Int):CallSpec:={ args:=[aInts l,.clo 61 []],res:=iv (idxL l),pre:=l.length<=65536 }
def h83c (l:List Int):Hint:={ X:=Nat,M:=fun i=>[(8,iv i)],I:=fun i=>i<=l.length /\ ∀ j,j < i->notL (l.getD j 0)=false,mu:=fun i=>l.length - i,x0:=(0:Nat),nx:=fun i=>i + 1 }
def s60 (l:List Int):CallSpec:={ args:=[aInts l,.clo 61 []],res:=bv (anyW l),pre:=l.length<=65536 }
def c60 (l:List Int):CallSpec:=s83c l
def s43 (b:Book) (is:Bool):CallSpec:={ args:=[vBk b,bv is],res := .tup [.opt (okBook b && is) (cWk b),iv (openE b is)],pre:=smallB b }
def h43 (b:Book) (is:Bool):Hint:={ X:=Nat,M:=fun i=>[(23,iv i)],H:=fun i=>[(96,.cells 71 [.sl 2 b.lines.length (fun i=>cSpan (lnB b i)),.sl 3 b.shown.length (fun i=>cShn (shB b i)),iv b.rate,iv b.rep,.sl 4 b.ctrs.length (fun i=>cCtr (ctB b i)),.vec 5000]),(5000,rowS ((rawD b).take i))],I:=fun i=>i<=b.shown.length,mu:=fun i=>b.shown.length - i,x0:=(0:Nat),nx:=fun i=>i + 1 }
def c43a (b:Book) (is:Bool):CallSpec:=s73 5000 (rawD b)
def c43b (b:Book) (is:Bool):CallSpec:=s76 5000 (sortD (rawD b))
def s31 (b:Book) (ls:List Int) (is:Bool):CallSpec:={ args:=[vBk b,aInts ls,bv is],res := .tup [.opt (okBook b && (is && areLnB b ls)) (cWk b),iv (givenE b ls is)],pre:=smallB b/\ls.length<=60000 }
def s81 (b:Book) (s:Sday) (ls:List Int):CallSpec:={ args:=[vWk b,vSday s,aInts ls],res:=iv (singleP b ls s),pre:=SoundB b/\GoodLn b ls/\s ∈ stds b }
def c81 (b:Book) (s:Sday) (ls:List Int):CallSpec:=s59 (stds b) ⟨s.ad,s.day - 1⟩
def s57 (b:Book) (ls:List Int):CallSpec:={ args:=[vWk b,aInts ls],res:=vDk b ls (desk0 b),pre:=SoundB b }
def h57 (b:Book) (ls:List Int):Hint:={ X:=Nat,M:=fun i=>[(17,iv i)],H:=fun i=>[(32,.cells 90 [vWk b,aInts ls,.arr 1 3 (fun j=>[iv (sitTo b i j)]),.arr 1 3 (fun _=>[iv 0]),iv 0])],I:=fun i=>i<=b.ctrs.length,mu:=fun i=>b.ctrs.length - i,x0:=(0:Nat),nx:=fun i=>i + 1 }
def s58 (n:Nat) (b:Book) (ls:List Int) (d:Desk) (i:Nat) (y:Int) (k:Nat):CallSpec:=ptrSpec n [] [iv i,iv y] 90 (cDk b ls d) (cDk b ls (billD b ls d (sdA b i) y)) (SoundB b/\GoodLn b ls/\i < (stds b).length/\okDk k d/\k<=10) (bv (billOK b ls d (sdA b i) y))
end Go.Ab
namespace Go.Ab
open Go Go.RowKit Go.Proofs Go.Sh Go.En
abbrev q2l (l:List Int) (P:Prop):Prop:=l.length<=65536->P
abbrev q2m (l:List Int) (x0:Nat) (P:Prop):Prop:=(x0<=l.length /\ ∀ (j:Nat),j < x0->notL (l.getD j 0)=false)->P
abbrev q2n (l:List Int) (x0:Nat) (P:Prop):Prop:=q2m l x0 (decide ((x0:Int) < (↑(l.length):Int))=true->P)
theorem w83c (l:List Int)
 (o0:List.length l<=65536->0=(↑0:Int))
 (o1:q2l l (0<=l.length /\ ∀ (j:Nat),j < 0->notL (l.getD j 0)=false))
 (o2:q2l l (∀ (x0:Nat),q2n l x0 (0<=(x0:Int))))
 (o3:q2l l (∀ (x0:Nat),q2n l x0 ((x0:Int) < (↑(l.length):Int))))
 (o4:q2l l (∀ (x0:Nat),q2n l x0 ((!within (l.getD x0 0) 0 9)=true->(x0:Int)=idxL l)))
 (o5:q2l l (∀ (x0:Nat),q2n l x0 ((!within (l.getD x0 0) 0 9)=false->inI ((x0:Int) + 1))))
 (o6:q2l l (∀ (x0:Nat),q2n l x0 ((!within (l.getD x0 0) 0 9)=false->(x0:Int) + 1=(↑(x0 + 1):Int))))
 (o7:q2l l (∀ (x0:Nat),q2n l x0 ((!within (l.getD x0 0) 0 9)=false->x0 + 1<=l.length /\ ∀ (j:Nat),j < x0 + 1->notL (l.getD j 0)=false)))
 (o8:q2l l (∀ (x0:Nat),q2n l x0 ((!within (l.getD x0 0) 0 9)=false->l.length - (x0 + 1) < l.length - x0)))
 (o9:q2l l (∀ (x0:Nat),q2m l x0 (decide ((x0:Int) < (↑(l.length):Int))=false -> -1=idxL l))) :
  Triple Tryz.prog 83 (s83c l):=by
 refine triple_of Tryz.func83 rfl Tryz.call83 T0_ok _ rfl rfl rfl rfl (Nat.le_of_ble_eq_true (by kernel_rfl)) (fun _ _ _ _ h=>h) ?_
 intro hpre C hC _ hE
 obtain ⟨P,w0,E0,av,hA,ro,df⟩:=C
 obtain ⟨rfl,rfl,rfl⟩:=hC
 refine swp_seq ?_
 refine zR [0,1] [] (Ak 1 tv) ?_
 refine swp_seq ?_
 refine swp_seq ?_
 refine zR [0,1,7,8] [] (Ak 3 tv) ?_
 refine swp_block ?_
 refine zL (Hint.ann (h83c l) [(0,aInts l),(1,AV.clo 61 []),(7,iv (↑(l.length):Int))] [] 10032) (zE hE [] [] [0,1,7] [] (An (An (An (zr (aInts l)) (zr true)) (An (An (zr (AV.clo 61 [])) (zr true)) (An (An (zr (iv (↑(l.length):Int))) (zr true)) (An (An (ci (o0 hpre)) (zr nilN)) tv)))) (Ak 1 (An (zr true) (zr true))))) (o1 hpre) (fun (x0:Nat) hx0 => ?_)
 refine swp_seq ?_
 refine zR [0,1,7,8,9] [] (Ak 1 tv) ?_
 refine swp_seq ?_
 refine zI (decide ((x0:Int) < (↑(l.length):Int))) (fun y1 => ?_) (fun y1 => ?_)
 ·refine swp_skip ?_
  refine swp_seq ?_
  refine swp_block ?_
  refine swp_seq ?_
  refine zR [0,1,7,8,5] [] (Ak 2 tv) ?_
  refine swp_seq ?_
  refine zC ([(5,CallSpec.eq (s61 (l.getD x0 0)) [true])]) [0,1,7,8,5,16] [] (Ak 3 (An (An (o2 hpre x0 hx0 y1) (o3 hpre x0 hx0 y1)) (Ak 1 (An (An (An (zr (iv (l.getD x0 0))) tv) (An (t61 (l.getD x0 0)) (Ak 2 (fun (i2:Env)=>tv)))) tv)))) ?_
  refine zI (!within (l.getD x0 0) 0 9) (fun y3 => ?_) (fun y3 => ?_)
  ·refine swp_seq ?_
   refine zR [4] [] (Ak 2 tv) ?_
   refine swp_ret ?_
   exact zT [] (An (Ak 1 tv) (An (An (ci (o4 hpre x0 hx0 y1 y3)) (zr nilN)) (An (zr true) (An (zr true) (zr true)))))
  ·refine swp_skip ?_
   refine zR [0,1,7,8] [] (An (o5 hpre x0 hx0 y1 y3) (Ak 1 tv)) ?_
   exact zn (zE hE [] [] [0,1,7] [] (An (An (An (zr (aInts l)) (zr true)) (An (An (zr (AV.clo 61 [])) (zr true)) (An (An (zr (iv (↑(l.length):Int))) (zr true)) (An (An (ci (o6 hpre x0 hx0 y1 y3)) (zr nilN)) tv)))) (Ak 1 (An (zr true) (zr true))))) (o7 hpre x0 hx0 y1 y3) (o8 hpre x0 hx0 y1 y3)
 ·refine swp_exit ?_
  refine swp_seq ?_
  refine zR [4] [] (Ak 1 tv) ?_
  refine swp_ret ?_
  exact zT [] (An (Ak 1 tv) (An (An (ci (o9 hpre x0 hx0 y1)) (zr nilN)) (An (zr true) (An (zr true) (zr true)))))
theorem idxL_found {l:List Int} {x:Nat} (hx:x < l.length) (h:∀ j,j < x->notL (l.getD j 0)=false) (hp:notL (l.getD x 0)=true):idxL l=x:=by
 have:l.findIdx? notL=some x:=by
  rw [List.findIdx?_eq_some_iff_getElem]
  refine ⟨hx,by rw [← getD_lt l 0 hx]; exact hp,fun j hj => ?_⟩
  rw [← getD_lt l 0 (by omega),h j hj]; simp
 simp [idxL,this]
theorem idxL_none {l:List Int} (h:∀ j,j < l.length->notL (l.getD j 0)=false):idxL l = -1:=by
 have:l.findIdx? notL=none:=by
  rw [List.findIdx?_eq_none_iff]
  intro x hx
  have h1:=any_idx l 0 notL h
  rw [List.any_eq_false] at h1
  simpa using h1 x hx
 simp [idxL,this]
theorem idxL_any (l:List Int):decide (0<=idxL l)=anyW l:=by
 unfold idxL anyW
 cases e:l.findIdx? notL with
 | none =>
  rw [List.findIdx?_eq_none_iff] at e
  have:(l.any fun n => !within n 0 9)=false:=by
   rw [List.any_eq_false]; intro y hy; have:=e y hy; unfold notL at this; rw [this]; simp
  rw [this]; rfl
 | some i =>
  rw [List.findIdx?_eq_some_iff_getElem] at e
  obtain ⟨h,h1,_⟩:=e
  have:(l.any fun n => !within n 0 9)=true:=List.any_eq_true.2 ⟨_,List.getElem_mem h,h1⟩
  rw [this]
  exact decide_eq_true (show 0<=((i:Nat):Int) by omega)
theorem t83c (l:List Int):Triple Tryz.prog 83 (s83c l):=by
 apply w83c
 all_goals (try delta q2l q2m q2n)
 case o4=>intro hp x hx hl h; simp only [decide_eq_true_eq] at hl; exact (idxL_found (by omega) hx.2 h).symm
 case o7=>intro hp x hx hl h; simp only [decide_eq_true_eq] at hl; exact ⟨by omega,lt_succ_cases hx.2 h⟩
 case o9=>intro hp x hx hl; simp only [decide_eq_false_iff_not] at hl; exact (idxL_none fun j hj=>hx.2 j (by omega)).symm
 all_goals (try ((repeat intro _) <;> (try simp only [Bool.cond_true_left,Bool.cond_false_right,Bool.not_not,Bool.not_eq_true',Bool.not_eq_false',Bool.or_eq_true,Bool.or_eq_false_iff,Bool.and_eq_true,decide_eq_true_eq,decide_eq_false_iff_not,inI,big] at *) <;> first | (exact rfl) | omega | (exact ⟨Nat.zero_le _,fun j hj=>absurd hj (Nat.not_lt_zero j)⟩) | (simp_all; done) | (simp_all; omega)))
theorem w60 (l:List Int)
  (o0:l.length<=65536->decide (0<=idxL l)=anyW l) :
  Triple Tryz.prog 60 (s60 l):=by
 refine triple_of Tryz.func60 rfl Tryz.call60 T0_ok _ rfl rfl rfl rfl (Nat.le_of_ble_eq_true (by kernel_rfl)) (fun _ _ _ _ h=>h) ?_
 intro hpre C hC _ hE
 obtain ⟨P,w0,E0,av,hA,ro,df⟩:=C
 obtain ⟨rfl,rfl,rfl⟩:=hC
 refine swp_seq ?_
 refine zR [0,1] [] (Ak 1 tv) ?_
 refine swp_seq ?_
 refine zC ([(2,CallSpec.eq (c60 l) [true,true])]) [4] [] (Ak 2 (An (An (An (zr (aInts l)) (An (zr (AV.clo 61 [])) tv)) (An (t83c (l)) (An hpre (Ak 1 (fun (i0:Env)=>tv))))) (Ak 2 tv))) ?_
 refine swp_ret ?_
 exact zT [] (An (Ak 1 tv) (An (An (cb (o0 hpre)) (zr nilN)) (An (zr true) (An (zr true) (zr true)))))
theorem t60 (l:List Int):Triple Tryz.prog 60 (s60 l):=by
 apply w60
 intro _; exact idxL_any l
abbrev q2o (b:Book) (P:Prop):Prop:=smallB b->P
abbrev q2p (b:Book) (P:Prop):Prop:=q2o b ((!decide (checkB b=0))=false->P)
abbrev q2q (b:Book) (is:Bool) (P:Prop):Prop:=q2p b ((!is)=false->P)
abbrev q2r (b:Book) (x3:Nat) (P:Prop):Prop:=x3<=b.shown.length->P
abbrev q2s (b:Book) (x3:Nat) (P:Prop):Prop:=q2r b x3 (decide ((x3:Int) < (↑(b.shown.length):Int))=true->P)
abbrev q2t (b:Book) (x3:Nat) (P:Prop):Prop:=q2r b x3 (decide ((x3:Int) < (↑(b.shown.length):Int))=false->P)
theorem w43 (b:Book) (is:Bool)
 (o0:q2o b ((!decide (checkB b=0))=true->(okBook b && is)=false))
 (o1:q2o b ((!decide (checkB b=0))=true->checkB b=openE b is))
 (o2:q2p b ((!is)=true->(okBook b && is)=false))
 (o3:q2p b ((!is)=true->1=openE b is))
 (o4:q2q b is (0=(↑0:Int)))
 (o5:q2q b is ((List.take 0 (rawD b)).length=0))
 (o6:q2q b is (0<=b.shown.length))
 (o7:q2q b is (∀ (x3:Nat),q2s b x3 (0<=(x3:Int))))
 (o8:q2q b is (∀ (x3:Nat),q2s b x3 ((x3:Int) < (↑(b.shown.length):Int))))
 (o9:q2q b is (∀ (x3:Nat),q2s b x3 ((List.take x3 (rawD b)).length + 1<=65536)))
 (o10:q2q b is (∀ (x3:Nat),q2s b x3 (inI ((x3:Int) + 1))))
 (o11:q2q b is (∀ (x3:Nat),q2s b x3 ((x3:Int) + 1=(↑(x3 + 1):Int))))
 (o12:q2q b is (∀ (x3:Nat),q2s b x3 ((List.take x3 (rawD b)).length + 1=(List.take (x3 + 1) (rawD b)).length)))
 (o13:q2q b is (∀ (x3:Nat),q2s b x3 (∀ (i17:Nat),i17 < (List.take x3 (rawD b)).length + 1->catF (List.take x3 (rawD b)).length (fun (i:Nat)=>cSday ((List.take x3 (rawD b)).getD i default)) (fun (j:Nat)=>List.getD [[iv (shB b x3).ad,iv (shB b x3).day]] j (TI.za ti54)) i17=cSday ((List.take (x3 + 1) (rawD b)).getD i17 default))))
 (o14:q2q b is (∀ (x3:Nat),q2s b x3 (x3 + 1<=b.shown.length)))
 (o15:q2q b is (∀ (x3:Nat),q2s b x3 (b.shown.length - (x3 + 1) < b.shown.length - x3)))
 (o16:q2q b is (∀ (x3:Nat),q2t b x3 ((rawD b).length<=12)))
 (o17:q2q b is (∀ (x3:Nat),q2t b x3 (okDs (rawD b))))
 (o18:q2q b is (∀ (x3:Nat),q2t b x3 (some (OB.vec 54 2 (List.take x3 (rawD b)).length fun (i:Nat)=>cSday ((List.take x3 (rawD b)).getD i default))=some (OB.vec 54 2 (rawD b).length fun (i:Nat)=>cSday ((rawD b).getD i default)))))
 (o19:q2q b is (∀ (x3:Nat),q2t b x3 ((sortD (rawD b)).length<=65536)))
 (o20:q2q b is (∀ (x3:Nat),q2t b x3 ((okBook b && is)=true)))
 (o21:q2q b is (∀ (x3:Nat),q2t b x3 ((cpL default (sortD (rawD b))).length=(stds b).length)))
 (o22:q2q b is (∀ (x3:Nat),q2t b x3 (∀ (i27:Nat),i27 < (stds b).length->cSday ((cpL default (sortD (rawD b))).getD i27 default)=cSday ((stds b).getD i27 default))))
 (o23:q2q b is (∀ (x3:Nat),q2t b x3 (0=openE b is))) :
  Triple Tryz.prog 43 (s43 b is):=by
 refine triple_of Tryz.func43 rfl Tryz.call43 T0_ok _ rfl rfl rfl rfl (Nat.le_of_ble_eq_true (by kernel_rfl)) (fun _ _ _ _ h=>h) ?_
 intro hpre C hC _ hE
 obtain ⟨P,w0,E0,av,hA,ro,df⟩:=C
 obtain ⟨rfl,rfl,rfl⟩:=hC
 refine swp_seq ?_
 refine zR [1,2] [0] (Ak 3 tv) ?_
 refine swp_seq ?_
 refine swp_seq ?_
 refine zC ([(1,CallSpec.eq (s72 b) [true])]) [1,2,6] [0] (Ak 1 (An (An (An (zr (AV.agg (cBk b))) tv) (An (t72 (b)) (An hpre (Ak 1 (fun (i0:Env)=>tv))))) (Ak 1 tv))) ?_
 refine swp_seq ?_
 refine zR [1,2,6,13] [0] (Ak 2 tv) ?_
 refine zI (!decide (checkB b=0)) (fun y1 => ?_) (fun y1 => ?_)
 ·refine swp_seq ?_
  refine zR [4,5] [] (Ak 3 tv) ?_
  refine swp_ret ?_
  exact zT [] (An (Ak 2 tv) (An (An (o0 hpre y1) (An (An (ci (o1 hpre y1)) (zr nilN)) tv)) (An (zr true) (An (zr true) (zr true)))))
 ·refine swp_skip ?_
  refine swp_seq ?_
  refine swp_seq ?_
  refine zR [2,16] [0] (Ak 2 tv) ?_
  refine zI (!is) (fun y2 => ?_) (fun y2 => ?_)
  ·refine swp_seq ?_
   refine zR [4,5] [] (Ak 2 tv) ?_
   refine swp_ret ?_
   exact zT [] (An (Ak 2 tv) (An (An (o2 hpre y1 y2) (An (An (ci (o3 hpre y1 y2)) (zr nilN)) tv)) (An (zr true) (An (zr true) (zr true)))))
  ·refine swp_skip ?_
   refine swp_seq ?_
   refine zR [2,7] [0,96] (Ak 4 tv) ?_
   refine swp_seq ?_
   refine swp_seq ?_
   refine zR [7,21,22,23] [96] (Ak 4 tv) ?_
   refine swp_block ?_
   refine zL (Hint.ann (h43 b is) [(7,AV.ptr 96 []),(21,AV.sl 3 b.shown.length fun (i:Nat)=>cShn (shB b i)),(22,iv (↑(b.shown.length):Int))] [] 10144) (zE hE [] [(96,.same 96),(5000,.nil)] [21,22] [] (An (An (An (zr (some (Src.same 96))) (zr nilP)) (An (An (zr (AV.sl 3 b.shown.length fun (i:Nat)=>cShn (shB b i))) (zr true)) (An (An (zr (iv (↑(b.shown.length):Int))) (zr true)) (An (An (ci (o4 hpre y1 y2)) (zr nilN)) tv)))) (An (An (An (zr 71) (An (An (An (zr 2) (An (zr b.lines.length) (fun (i4:Nat)=>(fun (y5:i4 < b.lines.length)=>(zr (cSpan (lnB b i4))))))) (An (An (zr 3) (An (zr b.shown.length) (fun (i6:Nat)=>(fun (y7:i6 < b.shown.length)=>(zr (cShn (shB b i6))))))) (An (An (zr (iv b.rate)) (zr nilN)) (An (An (zr (iv b.rep)) (zr nilN)) (An (An (zr 4) (An (zr b.ctrs.length) (fun (i8:Nat)=>(fun (y9:i8 < b.ctrs.length)=>(zr (cCtr (ctB b i8))))))) (An (zr (some Src.nil)) tv)))))) (zr true))) (An (o5 hpre y1 y2) tv)) (An (zr true) (zr true))))) (o6 hpre y1 y2) (fun (x3:Nat) hx3 => ?_)
   refine swp_seq ?_
   refine zR [7,21,22,23,24] [96,5000] (Ak 1 tv) ?_
   refine swp_seq ?_
   refine zI (decide ((x3:Int) < (↑(b.shown.length):Int))) (fun y10 => ?_) (fun y10 => ?_)
   ·refine swp_skip ?_
    refine swp_seq ?_
    refine swp_block ?_
    refine swp_seq ?_
    refine zR [7,21,22,23,9] [96,10168,5000] (An (An (o7 hpre y1 y2 x3 hx3 y10) (o8 hpre y1 y2 x3 hx3 y10)) (Ak 3 tv)) ?_
    refine zR [7,21,22,23] [96,10272] (Ak 11 (An (o9 hpre y1 y2 x3 hx3 y10) (Ak 3 tv))) ?_
    refine zR [7,21,22,23] [96,10272] (An (o10 hpre y1 y2 x3 hx3 y10) (Ak 1 tv)) ?_
    exact zn (zE hE [] [(96,.same 96),(5000,.same 10272)] [21,22] [] (An (An (An (zr (some (Src.same 96))) (zr nilP)) (An (An (zr (AV.sl 3 b.shown.length fun (i:Nat)=>cShn (shB b i))) (zr true)) (An (An (zr (iv (↑(b.shown.length):Int))) (zr true)) (An (An (ci (o11 hpre y1 y2 x3 hx3 y10)) (zr nilN)) tv)))) (An (An (An (zr 71) (An (An (An (zr 2) (An (zr b.lines.length) (fun (i11:Nat)=>(fun (y12:i11 < b.lines.length)=>(zr (cSpan (lnB b i11))))))) (An (An (zr 3) (An (zr b.shown.length) (fun (i13:Nat)=>(fun (y14:i13 < b.shown.length)=>(zr (cShn (shB b i13))))))) (An (An (zr (iv b.rate)) (zr nilN)) (An (An (zr (iv b.rep)) (zr nilN)) (An (An (zr 4) (An (zr b.ctrs.length) (fun (i15:Nat)=>(fun (y16:i15 < b.ctrs.length)=>(zr (cCtr (ctB b i15))))))) (An (zr (some (Src.same 10272))) tv)))))) (zr true))) (An (An (zr 54) (An (zr 2) (An (o12 hpre y1 y2 x3 hx3 y10) (fun (i17:Nat)=>(fun (y18:i17 < (List.take x3 (rawD b)).length + 1)=>(o13 hpre y1 y2 x3 hx3 y10 i17 y18)))))) tv)) (An (zr true) (zr true))))) (o14 hpre y1 y2 x3 hx3 y10) (o15 hpre y1 y2 x3 hx3 y10)
   ·refine swp_exit ?_
    refine swp_seq ?_
    refine zC ([(4,CallSpec.eq (c43a b is) [true,true])]) [7] [96,5000] (Ak 4 (An (An (An (zr (AV.vec 5000)) (An (zr (AV.clo 74 [])) tv)) (An (t73 (5000) (rawD b)) (An (An (o16 hpre y1 y2 x3 hx3 y10) (o17 hpre y1 y2 x3 hx3 y10)) (An (An (o18 hpre y1 y2 x3 hx3 y10) tv) (fun (i19:Env)=>tv))))) tv)) ?_
    refine swp_seq ?_
    refine zC ([(5,CallSpec.eq (c43b b is) [true])]) [7] [96] (Ak 5 (An (An (An (zr (AV.vec 5000)) tv) (An (t76 (5000) (sortD (rawD b))) (An (o19 hpre y1 y2 x3 hx3 y10) (An (An (zr (some (OB.vec 54 2 (sortD (rawD b)).length fun (i:Nat)=>cSday ((sortD (rawD b)).getD i default)))) tv) (fun (i20:Env)=>tv))))) (Ak 3 tv))) ?_
    refine swp_seq ?_
    refine swp_ent (zF 96) ?_
    refine zR [4,5] [] (Ak 3 tv) ?_
    refine swp_ret ?_
    exact zT [] (An (Ak 2 tv) (An (An (An (o20 hpre y1 y2 x3 hx3 y10) (An (An (zr 2) (An (zr b.lines.length) (fun (i21:Nat)=>(fun (y22:i21 < b.lines.length)=>(zr (cSpan (lnB b i21))))))) (An (An (zr 3) (An (zr b.shown.length) (fun (i23:Nat)=>(fun (y24:i23 < b.shown.length)=>(zr (cShn (shB b i23))))))) (An (zr (iv b.rate)) (An (zr (iv b.rep)) (An (An (zr 4) (An (zr b.ctrs.length) (fun (i25:Nat)=>(fun (y26:i25 < b.ctrs.length)=>(zr (cCtr (ctB b i25))))))) (An (An (zr 2) (An (o21 hpre y1 y2 x3 hx3 y10) (fun (i27:Nat)=>(fun (y28:i27 < (stds b).length)=>(o22 hpre y1 y2 x3 hx3 y10 i27 y28))))) tv))))))) (An (An (ci (o23 hpre y1 y2 x3 hx3 y10)) (zr nilN)) tv)) (An (zr true) (An (zr true) (zr true)))))
theorem raw_ok {b:Book} (hs:SoundB b):okDs (rawD b):=by
 intro q hq
 unfold rawD at hq ⊢
 rw [List.length_map] at hq
 have h:=hs.show_ q hq
 have h2:=hs.lines
 have e:sdG (b.shown.map fun s=>(⟨s.ad,s.day⟩:Sday)) q=⟨(shB b q).ad,(shB b q).day⟩:=by
  unfold sdG shB
  rw [getD_lt _ _ (by simpa using hq),getD_lt _ _ hq,List.getElem_map]
 rw [e]
 exact ⟨⟨by show _<=(shB b q).ad; omega,by show (shB b q).ad<=_; omega⟩,by show _<=(shB b q).day; omega,by show (shB b q).day<=_; omega⟩
theorem raw_len (b:Book):(rawD b).length=b.shown.length:=by simp [rawD]
theorem raw_get {b:Book} {i:Nat} (h:i < b.shown.length):(rawD b).getD i default=⟨(shB b i).ad,(shB b i).day⟩:=by
 unfold rawD shB
 rw [getD_lt _ _ (by simpa using h),getD_lt _ _ h,List.getElem_map]
theorem snoc_cat {α:Type} (d:α) (c:α->List AV) (l:List α) (x:α) {g:Nat->List AV} (hg:g 0=c x):∀ i,i < l.length + 1->catF l.length (fun i=>c (l.getD i d)) g i=c ((l ++ [x]).getD i d):=by
 intro i hi
 rw [getD_append]
 unfold catF
 by_cases h:i < l.length
 ·rw [if_pos h,if_pos h]
 ·rw [if_neg h,if_neg h]
  have:i - l.length=0:=by omega
  rw [this,hg]; rfl
theorem t43 (b:Book) (is:Bool):Triple Tryz.prog 43 (s43 b is):=by
 apply w43
 all_goals (try delta q2o q2p q2q q2r q2s q2t)
 all_goals (intro hp h; rw [chk_b] at h)
 case o0=>simp only [Bool.not_eq_true'] at h; rw [h]; rfl
 case o1=>simp only [Bool.not_eq_true'] at h; unfold checkB openE; rw [h]; rfl
 all_goals (simp only [Bool.not_eq_false'] at h)
 all_goals (intro h2)
 case o2=>simp only [Bool.not_eq_true'] at h2; rw [h2,Bool.and_false]
 case o3=>simp only [Bool.not_eq_true'] at h2; unfold openE; rw [h,h2]; rfl
 all_goals (simp only [Bool.not_eq_false'] at h2; have hs:=ok_soundB h; have hsh:=hs.shown)
 case o4=>rfl
 case o5=>rfl
 case o6=>omega
 all_goals (intro x hx hl; simp only [decide_eq_true_eq,decide_eq_false_iff_not] at hl)
 case o9=>rw [List.length_take]; omega
 case o12=>rw [List.length_take,List.length_take,raw_len]; omega
 case o13 =>
  intro i hi
  rw [take_succ _ default (by rw [raw_len]; omega)]
  exact snoc_cat default cSday _ _ (by rw [raw_get (by omega)]; rfl) i hi
 case o16=>rw [raw_len]; omega
 case o17=>exact raw_ok hs
 case o18=>rw [List.take_of_length_le (by rw [raw_len]; omega)]
 case o19=>rw [sortD_len,raw_len]; omega
 case o20=>rw [h,h2]; rfl
 case o21=>rw [cp_stds hs]
 case o22=>intro i hi; rw [cp_stds hs]
 case o23=>unfold openE; rw [h,h2]; rfl
 all_goals (first | omega | rfl | (simp only [inI]; omega))
theorem w31 (b:Book) (ls:List Int) (is:Bool)
  (o0:smallB b/\ls.length<=60000->(bif is then decide ((↑(ls.length):Int)=(↑(b.lines.length):Int)) else false)=true->ls.length<=65536)
  (o1:smallB b/\ls.length<=60000->(okBook b && bif bif is then decide ((↑(ls.length):Int)=(↑(b.lines.length):Int)) else false then !anyW ls else false)=(okBook b && (is && areLnB b ls)))
  (o2:smallB b/\ls.length<=60000->openE b (bif bif is then decide ((↑(ls.length):Int)=(↑(b.lines.length):Int)) else false then !anyW ls else false)=givenE b ls is) :
  Triple Tryz.prog 31 (s31 b ls is):=by
 refine triple_of Tryz.func31 rfl Tryz.call31 T0_ok _ rfl rfl rfl rfl (Nat.le_of_ble_eq_true (by kernel_rfl)) (fun _ _ _ _ h=>h) ?_
 intro hpre C hC _ hE
 obtain ⟨P,w0,E0,av,hA,ro,df⟩:=C
 obtain ⟨rfl,rfl,rfl⟩:=hC
 refine swp_seq ?_
 refine zR [1,2,3] [0] (Ak 3 tv) ?_
 refine swp_seq ?_
 refine zC ([(11,CallSpec.eq (s60 ls) [false,true])]) [2,3] [0] (Ak 2 (An (fun (y0:is=true)=>(An (Ak 1 tv) tv)) (An (fun (y1:is=true)=>(An (An (fun (y2:is=true)=>y1) tv) tv)) (An (fun (y3:is=true)=>(An (Ak 1 tv) tv)) (An (fun (y4:is=true)=>(An (An (fun (y5:is=true)=>y4) tv) tv)) (An (fun (y6:is=true)=>(An (An (fun (y7:is=true)=>y6) tv) tv)) (An (fun (y8:is=true)=>(An (An (fun (y9:is=true)=>y8) (An (fun (y10:is=true)=>y8) tv)) tv)) (An (An (fun (y11:is=true)=>y11) (fun (y12:is=false)=>tv)) (Ak 1 (An (fun (y13:(bif is then decide ((↑(ls.length):Int)=(↑(b.lines.length):Int)) else false)=true)=>(An (Ak 1 tv) tv)) (An (fun (y14:(bif is then decide ((↑(ls.length):Int)=(↑(b.lines.length):Int)) else false)=true)=>(An (Ak 1 (An (fun (y15:(bif is then decide ((↑(ls.length):Int)=(↑(b.lines.length):Int)) else false)=true)=>y14) (Ak 1 tv))) (An (An (An (zr 1) (An (zr ls.length) (fun (i16:Nat)=>(fun (y17:i16 < ls.length)=>(zr ([iv (ls.getD i16 0)])))))) (An (zr (AV.clo 61 [])) tv)) (An (t60 (ls)) (An (o0 hpre y14) (Ak 1 (fun (i18:Env)=>tv))))))) (An (fun (y19:(bif is then decide ((↑(ls.length):Int)=(↑(b.lines.length):Int)) else false)=true)=>(An (An (fun (y20:(bif is then decide ((↑(ls.length):Int)=(↑(b.lines.length):Int)) else false)=true)=>y19) tv) tv)) (An (An (fun (y21:(bif is then decide ((↑(ls.length):Int)=(↑(b.lines.length):Int)) else false)=true)=>y21) (fun (y22:(bif is then decide ((↑(ls.length):Int)=(↑(b.lines.length):Int)) else false)=false)=>tv)) (Ak 1 tv)))))))))))))) ?_
 refine swp_seq ?_
 refine zC ([(2,CallSpec.eq (s43 b (bif bif is then decide ((↑(ls.length):Int)=(↑(b.lines.length):Int)) else false then !anyW ls else false)) [true,true])]) [6,7] [] (Ak 2 (An (An (An (zr (AV.agg (cBk b))) (An (zr (bv (bif bif is then decide ((↑(ls.length):Int)=(↑(b.lines.length):Int)) else false then !anyW ls else false))) tv)) (An (t43 (b) (bif bif is then decide ((↑(ls.length):Int)=(↑(b.lines.length):Int)) else false then !anyW ls else false)) (An hpre.1 (Ak 1 (fun (i23:Env)=>tv))))) (Ak 4 tv))) ?_
 refine swp_ret ?_
 exact zT [] (An (Ak 2 tv) (An (An (An (o1 hpre) (fun (y24:(okBook b && (is && areLnB b ls))=true)=>(An (An (zr 2) (An (zr b.lines.length) (fun (i25:Nat)=>(fun (y26:i25 < b.lines.length)=>(zr (cSpan (lnB b i25))))))) (An (An (zr 3) (An (zr b.shown.length) (fun (i27:Nat)=>(fun (y28:i27 < b.shown.length)=>(zr (cShn (shB b i27))))))) (An (zr (iv b.rate)) (An (zr (iv b.rep)) (An (An (zr 4) (An (zr b.ctrs.length) (fun (i29:Nat)=>(fun (y30:i29 < b.ctrs.length)=>(zr (cCtr (ctB b i29))))))) (An (An (zr 2) (An (zr (stds b).length) (fun (i31:Nat)=>(fun (y32:i31 < (stds b).length)=>(zr (cSday ((stds b).getD i31 default))))))) tv)))))))) (An (An (ci (o2 hpre)) (zr nilN)) tv)) (An (zr true) (An (zr true) (zr true)))))
theorem any_are (b:Book) (ls:List Int) (is:Bool):(bif bif is then decide ((ls.length:Int)=b.lines.length) else false then !anyW ls else false)=(is && areLnB b ls):=by
 have e:anyW ls = !(ls.all fun n=>within n 0 9):=by
  unfold anyW
  rw [List.not_all_eq_any_not]
 unfold areLnB
 rw [e,Bool.not_not,Bool.cond_false_right,Bool.cond_false_right,Bool.and_assoc]
 congr 2
 exact decide_eq_decide.2 (by omega)
theorem t31 (b:Book) (ls:List Int) (is:Bool):Triple Tryz.prog 31 (s31 b ls is):=by
 apply w31
 case o0=>intro hp h; have:=hp.2; omega
 case o1=>intro hp; rw [any_are]
 case o2=>intro hp; unfold givenE; rw [any_are]
 all_goals (intro hp; first | exact hp.1 | (intros; omega) | skip)
theorem open_true (b:Book):openE b true=checkB b:=by unfold openE checkB; cases okBook b <;> rfl
abbrev q2u (b:Book) (s:Sday) (ls:List Int) (P:Prop):Prop:=SoundB b/\GoodLn b ls/\s ∈ stds b->P
abbrev q2v (b:Book) (s:Sday) (ls:List Int) (P:Prop):Prop:=q2u b s ls (hasG (stds b) (Sday.mk s.ad (s.day - 1))=true->P)
abbrev q2w (b:Book) (s:Sday) (ls:List Int) (P:Prop):Prop:=q2u b s ls (hasG (stds b) (Sday.mk s.ad (s.day - 1))=false->P)
theorem w81 (b:Book) (s:Sday) (ls:List Int)
 (o0:q2u b s ls (inI (s.day - 1)))
 (o1:q2u b s ls ((stds b).length<=65536))
 (o2:q2v b s ls (0<=s.ad))
 (o3:q2v b s ls (s.ad < (↑(ls.length):Int)))
 (o4:q2v b s ls (inI (b.rep * ls.getD s.ad.toNat 0)))
 (o5:q2v b s ls (b.rep * ls.getD s.ad.toNat 0=singleP b ls s))
 (o6:q2w b s ls (0<=s.ad))
 (o7:q2w b s ls (s.ad < (↑(ls.length):Int)))
 (o8:q2w b s ls (inI (b.rate * ls.getD s.ad.toNat 0)))
 (o9:q2w b s ls (b.rate * ls.getD s.ad.toNat 0=singleP b ls s)) :
  Triple Tryz.prog 81 (s81 b s ls):=by
 refine triple_of Tryz.func81 rfl Tryz.call81 T0_ok _ rfl rfl rfl rfl (Nat.le_of_ble_eq_true (by kernel_rfl)) (fun _ _ _ _ h=>h) ?_
 intro hpre C hC _ hE
 obtain ⟨P,w0,E0,av,hA,ro,df⟩:=C
 obtain ⟨rfl,rfl,rfl⟩:=hC
 refine swp_seq ?_
 refine zR [0,2,4] [0] (Ak 2 tv) ?_
 refine swp_seq ?_
 refine zR [0,2,4,7] [0] (Ak 6 tv) ?_
 refine swp_seq ?_
 refine swp_seq ?_
 refine zC ([(10,CallSpec.eq (c81 b s ls) [true,false])]) [0,2,4,7,23] [0] (Ak 8 (An (o0 hpre) (Ak 1 (An (An (An (zr (aDays (stds b))) (An (An (zr (iv s.ad)) (An (zr (iv (s.day - 1))) tv)) tv)) (An (t59 (stds b) (Sday.mk s.ad (s.day - 1))) (An (o1 hpre) (Ak 1 (fun (i0:Env)=>tv))))) tv)))) ?_
 refine zI (hasG (stds b) (Sday.mk s.ad (s.day - 1))) (fun y1 => ?_) (fun y1 => ?_)
 ·refine zR [2,4,7] [0] (Ak 6 tv) ?_
  refine swp_seq ?_
  refine zR [6] [] (Ak 4 (An (An (o2 hpre y1) (o3 hpre y1)) (Ak 1 (An (o4 hpre y1) (Ak 1 tv))))) ?_
  refine swp_ret ?_
  exact zT [] (An (Ak 1 tv) (An (An (ci (o5 hpre y1)) (zr nilN)) (An (zr true) (An (zr true) (zr true)))))
 ·refine swp_skip ?_
  refine swp_seq ?_
  refine zR [6] [] (Ak 4 (An (An (o6 hpre y1) (o7 hpre y1)) (Ak 1 (An (o8 hpre y1) (Ak 1 tv))))) ?_
  refine swp_ret ?_
  exact zT [] (An (Ak 1 tv) (An (An (ci (o9 hpre y1)) (zr nilN)) (An (zr true) (An (zr true) (zr true)))))
theorem has_iff {α:Type} [DecidableEq α] {l:List α} {x:α}:hasG l x=true ↔ x ∈ l:=by
 unfold hasG
 rw [List.any_eq_true]
 constructor
 ·rintro ⟨y,hy,h⟩; rw [decide_eq_true_eq] at h; rw [← h]; exact hy
 ·intro h; exact ⟨x,h,by simp⟩
theorem has_std {b:Book} (hs:SoundB b) (a d:Int):hasG (stds b) ⟨a,d⟩=stoodB b a d:=by
 rw [Bool.eq_iff_iff,has_iff,std_mem]
 constructor
 ·exact fun h=>h.2.2
 ·intro h
  refine ⟨?_,?_,h⟩ <;> unfold stoodB at h <;> obtain ⟨s,hm,h⟩:=List.any_eq_true.1 h <;> simp only [Bool.and_eq_true,decide_eq_true_eq] at h <;> obtain ⟨i,hi,e⟩:=List.getElem_of_mem hm <;> have h1:=hs.show_ i hi <;> unfold shB at h1 <;> rw [getD_lt _ _ hi,e] at h1
  ·show 0<=d/\d < 14; omega
  ·show 0<=a/\a < _; omega
theorem std_ad {b:Book} {ls:List Int} (hl:GoodLn b ls) {s:Sday} (h:s ∈ stds b):0<=s.ad/\s.ad < ls.length:=by
 have:=(std_mem.1 h).2.1
 have:=hl.1
 omega
theorem std_day {b:Book} {s:Sday} (h:s ∈ stds b):0<=s.day/\s.day < 14:=(std_mem.1 h).1
theorem stds_small {b:Book} (hs:SoundB b):(stds b).length<=6:=Nat.le_trans std_len hs.shown
theorem t81 (b:Book) (s:Sday) (ls:List Int):Triple Tryz.prog 81 (s81 b s ls):=by
 apply w81
 all_goals (try delta q2u q2v q2w)
 all_goals (rintro ⟨hs,hl,hm⟩; have hd:=std_day hm; have ha:=std_ad hl hm; have hr:=hs.rate; have hn:=stds_small hs; have hg:=hl.2 s.ad.toNat)
 case o0=>simp only [inI]; omega
 case o1=>omega
 all_goals (intro h; rw [has_std hs] at h)
 case o2 | o3=>all_goals omega
 case o6 | o7=>all_goals omega
 case o5=>unfold singleP rateOf; rw [h]; rfl
 case o9=>unfold singleP rateOf; rw [h]; rfl
 case o4 =>
  have h1:=Int.mul_nonneg hr.1 hg.1
  have h2:b.rep * ls.getD s.ad.toNat 0<=9 * 9:=Int.mul_le_mul (by omega) hg.2 hg.1 (by omega)
  simp only [inI]; omega
 case o8 =>
  have h1:=Int.mul_nonneg (show 0<=b.rate by omega) hg.1
  have h2:b.rate * ls.getD s.ad.toNat 0<=9 * 9:=Int.mul_le_mul (by omega) hg.2 hg.1 (by omega)
  simp only [inI]; omega
abbrev q2x (b:Book) (x0:Nat) (P:Prop):Prop:=x0<=b.ctrs.length->P
abbrev q2y (b:Book) (x0:Nat) (P:Prop):Prop:=q2x b x0 (decide ((x0:Int) < (↑(b.ctrs.length):Int))=true->P)
abbrev q2z (b:Book) (x0:Nat) (P:Prop):Prop:=q2x b x0 (decide ((x0:Int) < (↑(b.ctrs.length):Int))=false->P)
theorem w57 (b:Book) (ls:List Int)
 (o0:SoundB b->0=(↑0:Int))
 (o1:SoundB b -> ∀ (i3:Nat),i3 < 3 -> [iv 0] = [iv (sitTo b 0 i3)])
 (o2:SoundB b->0<=List.length (Book.ctrs b))
 (o3:SoundB b -> ∀ (x0:Nat),q2y b x0 (0<=(x0:Int)))
 (o4:SoundB b -> ∀ (x0:Nat),q2y b x0 ((x0:Int) < (↑(b.ctrs.length):Int)))
 (o5:SoundB b -> ∀ (x0:Nat),q2y b x0 (0<=(x0:Int)))
 (o6:SoundB b -> ∀ (x0:Nat),q2y b x0 ((x0:Int) < (↑3:Int)))
 (o7:SoundB b -> ∀ (x0:Nat),q2y b x0 (x0 < 3))
 (o8:SoundB b -> ∀ (x0:Nat),q2y b x0 (inI ((x0:Int) + 1)))
 (o9:SoundB b -> ∀ (x0:Nat),q2y b x0 ((x0:Int) + 1=(↑(x0 + 1):Int)))
 (o10:SoundB b -> ∀ (x0:Nat),q2y b x0 (∀ (i10:Nat),i10 < 3->Decidable.rec (fun (h:¬i10=x0)=>[iv (sitTo b x0 i10)]) (fun (h:i10=x0)=>[iv (ctB b x0).room] ++ []) (instDecidableEqNat i10 x0) = [iv (sitTo b (x0 + 1) i10)]))
 (o11:SoundB b -> ∀ (x0:Nat),q2y b x0 (x0 + 1<=b.ctrs.length))
 (o12:SoundB b -> ∀ (x0:Nat),q2y b x0 (b.ctrs.length - (x0 + 1) < b.ctrs.length - x0))
 (o13:SoundB b -> ∀ (x0:Nat),q2z b x0 (∀ (i16:Nat),i16 < 3 -> [iv (sitTo b x0 i16)] = [iv ((desk0 b).room i16)]))
 (o14:SoundB b -> ∀ (x0:Nat),q2z b x0 (∀ (i18:Nat),i18 < 3 -> [iv 0] = [iv ((desk0 b).used i18)]))
 (o15:SoundB b -> ∀ (x0:Nat),q2z b x0 (0=(desk0 b).cost)) :
  Triple Tryz.prog 57 (s57 b ls):=by
 refine triple_of Tryz.func57 rfl Tryz.call57 T0_ok _ rfl rfl rfl rfl (Nat.le_of_ble_eq_true (by kernel_rfl)) (fun _ _ _ _ h=>h) ?_
 intro hpre C hC _ hE
 obtain ⟨P,w0,E0,av,hA,ro,df⟩:=C
 obtain ⟨rfl,rfl,rfl⟩:=hC
 refine swp_seq ?_
 refine zR [0,1,4] [0] (Ak 1 tv) ?_
 refine swp_seq ?_
 refine zR [0,4,5] [0,32] (Ak 5 tv) ?_
 refine swp_seq ?_
 refine swp_seq ?_
 refine zR [4,5,15,16,17] [0,32] (Ak 7 tv) ?_
 refine swp_block ?_
 refine zL (Hint.ann (h57 b ls) [(4,AV.ptr 0 []),(5,AV.ptr 32 []),(15,AV.sl 4 b.ctrs.length fun (i:Nat)=>cCtr (ctB b i)),(16,iv (↑(b.ctrs.length):Int))] [(0,OB.cells 90 [AV.lit (Value.pointer none),nilv,AV.arr 1 3 fun (x:Nat)=>[iv 0],AV.arr 1 3 fun (x:Nat)=>[iv 0],iv 0])] 10104) (zE hE [] [(0,.same 0),(32,.same 32)] [15,16] [0] (An (An (An (zr (some (Src.same 0))) (zr nilP)) (An (An (zr (some (Src.same 32))) (zr nilP)) (An (An (zr (AV.sl 4 b.ctrs.length fun (i:Nat)=>cCtr (ctB b i))) (zr true)) (An (An (zr (iv (↑(b.ctrs.length):Int))) (zr true)) (An (An (ci (o0 hpre)) (zr nilN)) tv))))) (An (An (An (zr (OB.cells 90 [AV.lit (Value.pointer none),nilv,AV.arr 1 3 fun (x:Nat)=>[iv 0],AV.arr 1 3 fun (x:Nat)=>[iv 0],iv 0])) (zr true)) (An (An (zr 90) (An (An (An (zr (AV.rp (cWk b))) (zr nilN)) (An (An (zr 1) (An (zr ls.length) (fun (i1:Nat)=>(fun (y2:i1 < ls.length)=>(zr ([iv (ls.getD i1 0)])))))) (An (An (zr 1) (An (zr 3) (fun (i3:Nat)=>(fun (y4:i3 < 3)=>(o1 hpre i3 y4))))) (An (An (zr 1) (An (zr 3) (fun (i5:Nat)=>(fun (y6:i5 < 3)=>(zr ([iv 0])))))) (An (An (zr (iv 0)) (zr nilN)) tv))))) (zr true))) tv)) (An (zr true) (zr true))))) (o2 hpre) (fun (x0:Nat) hx0 => ?_)
 refine swp_seq ?_
 refine zR [4,5,15,16,17,18] [0,32] (Ak 1 tv) ?_
 refine swp_seq ?_
 refine zI (decide ((x0:Int) < (↑(b.ctrs.length):Int))) (fun y7 => ?_) (fun y7 => ?_)
 ·refine swp_skip ?_
  refine swp_seq ?_
  refine swp_block ?_
  refine swp_seq ?_
  refine zR [4,5,15,16,17,7,6] [0,32,10136] (Ak 1 (An (An (o3 hpre x0 hx0 y7) (o4 hpre x0 hx0 y7)) (Ak 4 tv))) ?_
  refine zR [4,5,15,16,17] [0,32] (Ak 4 (An (An (o5 hpre x0 hx0 y7) (o6 hpre x0 hx0 y7)) (An (An (o7 hpre x0 hx0 y7) tv) tv))) ?_
  refine zR [4,5,15,16,17] [0,32] (An (o8 hpre x0 hx0 y7) (Ak 1 tv)) ?_
  exact zn (zE hE [] [(0,.same 0),(32,.same 32)] [15,16] [0] (An (An (An (zr (some (Src.same 0))) (zr nilP)) (An (An (zr (some (Src.same 32))) (zr nilP)) (An (An (zr (AV.sl 4 b.ctrs.length fun (i:Nat)=>cCtr (ctB b i))) (zr true)) (An (An (zr (iv (↑(b.ctrs.length):Int))) (zr true)) (An (An (ci (o9 hpre x0 hx0 y7)) (zr nilN)) tv))))) (An (An (An (zr (OB.cells 90 [AV.lit (Value.pointer none),nilv,AV.arr 1 3 fun (x:Nat)=>[iv 0],AV.arr 1 3 fun (x:Nat)=>[iv 0],iv 0])) (zr true)) (An (An (zr 90) (An (An (An (zr (AV.rp (cWk b))) (zr nilN)) (An (An (zr 1) (An (zr ls.length) (fun (i8:Nat)=>(fun (y9:i8 < ls.length)=>(zr ([iv (ls.getD i8 0)])))))) (An (An (zr 1) (An (zr 3) (fun (i10:Nat)=>(fun (y11:i10 < 3)=>(o10 hpre x0 hx0 y7 i10 y11))))) (An (An (zr 1) (An (zr 3) (fun (i12:Nat)=>(fun (y13:i12 < 3)=>(zr ([iv 0])))))) (An (An (zr (iv 0)) (zr nilN)) tv))))) (zr true))) tv)) (An (zr true) (zr true))))) (o11 hpre x0 hx0 y7) (o12 hpre x0 hx0 y7)
 ·refine swp_exit ?_
  refine swp_seq ?_
  refine zR [4] [0] (Ak 2 tv) ?_
  refine swp_ret ?_
  exact zT [] (An (Ak 1 tv) (An (An (An (zr (AV.rp (cWk b))) (zr nilN)) (An (An (zr 1) (An (zr ls.length) (fun (i14:Nat)=>(fun (y15:i14 < ls.length)=>(zr ([iv (ls.getD i14 0)])))))) (An (An (zr 1) (An (zr 3) (fun (i16:Nat)=>(fun (y17:i16 < 3)=>(o13 hpre x0 hx0 y7 i16 y17))))) (An (An (zr 1) (An (zr 3) (fun (i18:Nat)=>(fun (y19:i18 < 3)=>(o14 hpre x0 hx0 y7 i18 y19))))) (An (An (ci (o15 hpre x0 hx0 y7)) (zr nilN)) tv))))) (An (zr true) (An (zr true) (zr true)))))
theorem t57 (b:Book) (ls:List Int):Triple Tryz.prog 57 (s57 b ls):=by
 apply w57
 all_goals (try delta q2x q2y q2z)
 all_goals (intro hs; have hc:=hs.ctrs)
 case o0=>rfl
 case o1=>intro i _; rfl
 case o2=>omega
 all_goals (intro x hx hl; simp only [decide_eq_true_eq,decide_eq_false_iff_not] at hl)
 case o10 =>
  intro i hi
  unfold sitTo
  refine rec_ei8 (fun h => ?_) (fun h => ?_)
  ·by_cases c:i < x
   ·rw [if_pos c,if_pos (by omega)]
   ·rw [if_neg c,if_neg (by omega)]
  ·rw [if_pos (by omega),h]; rfl
 case o13 =>
  intro i hi
  unfold sitTo desk0
  have:x=b.ctrs.length:=by omega
  subst this
  by_cases c:i < b.ctrs.length
  ·rw [if_pos c]
  ·rw [if_neg c]
   show _ = [iv (b.ctrs.getD i default).room]
   rw [getD_ge _ _ (by omega)]; rfl
 case o14=>intro i hi; rfl
 case o15=>rfl
 all_goals (first | omega | rfl | (simp only [inI]; omega) | (intros; omega))
abbrev q30 (b:Book) (ls:List Int) (d:Desk) (i:Nat) (k:Nat) (P:Prop):Prop:=SoundB b/\GoodLn b ls/\i < (stds b).length/\okDk k d/\k<=10->P
abbrev q31 (b:Book) (ls:List Int) (d:Desk) (i:Nat) (y:Int) (k:Nat) (P:Prop):Prop:=q30 b ls d i k (decide (y = -1)=false->P)
abbrev q32 (b:Book) (ls:List Int) (d:Desk) (i:Nat) (y:Int) (k:Nat) (P:Prop):Prop:=q31 b ls d i y k ((bif decide (y < 0) then true else decide ((↑(b.ctrs.length):Int)<=y))=false->P)
abbrev q33 (b:Book) (ls:List Int) (d:Desk) (i:Nat) (y:Int) (k:Nat) (P:Prop):Prop:=q32 b ls d i y k (decide ((Desk.mk d.room (setF d.used y.toNat (d.used y.toNat + 1)) d.cost).used y.toNat=1)=true->P)
abbrev q34 (b:Book) (ls:List Int) (d:Desk) (i:Nat) (y:Int) (k:Nat) (P:Prop):Prop:=q33 b ls d i y k (within ((stds b).getD i default).day (ctB b y.toNat).frm ((ctB b y.toNat).frm + (ctB b y.toNat).days - 1)=true->P)
abbrev q35 (b:Book) (ls:List Int) (d:Desk) (i:Nat) (y:Int) (k:Nat) (P:Prop):Prop:=q32 b ls d i y k (decide ((Desk.mk d.room (setF d.used y.toNat (d.used y.toNat + 1)) d.cost).used y.toNat=1)=false->P)
abbrev q36 (b:Book) (ls:List Int) (d:Desk) (i:Nat) (y:Int) (k:Nat) (P:Prop):Prop:=q35 b ls d i y k (within ((stds b).getD i default).day (ctB b y.toNat).frm ((ctB b y.toNat).frm + (ctB b y.toNat).days - 1)=true->P)
theorem w58 (n:Nat) (b:Book) (ls:List Int) (d:Desk) (i:Nat) (y:Int) (k:Nat)
 (o0:q30 b ls d i k (0<=(i:Int)))
 (o1:q30 b ls d i k ((i:Int) < (↑((stds b).length):Int)))
 (o2:q30 b ls d i k (decide (y = -1)=true->GoodLn b ls))
 (o3:q30 b ls d i k (decide (y = -1)=true->List.Mem ((stds b).getD i default) (stds b)))
 (o4:q30 b ls d i k (decide (y = -1)=true->inI (d.cost + singleP b ls ((stds b).getD i default))))
 (o5:q30 b ls d i k (decide (y = -1)=true->true=billOK b ls d (sdA b i) y))
 (o6:q30 b ls d i k (decide (y = -1)=true -> [AV.rp (cWk b),aInts ls,AV.arr 1 3 fun (i:Nat)=>[iv (d.room i)],AV.arr 1 3 fun (i:Nat)=>[iv (d.used i)],iv (d.cost + singleP b ls ((stds b).getD i default))]=cDk b ls (billD b ls d (sdA b i) y)))
 (o7:q31 b ls d i y k (decide (y < 0)=false->(!decide (y < 0))=true))
 (o8:q31 b ls d i y k ((bif decide (y < 0) then true else decide ((↑(b.ctrs.length):Int)<=y))=true->false=billOK b ls d (sdA b i) y))
 (o9:q31 b ls d i y k ((bif decide (y < 0) then true else decide ((↑(b.ctrs.length):Int)<=y))=true->cDk b ls d=cDk b ls (billD b ls d (sdA b i) y)))
 (o10:q32 b ls d i y k (0<=y))
 (o11:q32 b ls d i y k (y < (↑(b.ctrs.length):Int)))
 (o12:q32 b ls d i y k (0<=y))
 (o13:q32 b ls d i y k (y < (↑3:Int)))
 (o14:q32 b ls d i y k (y.toNat < 3))
 (o15:q32 b ls d i y k (inI (d.used y.toNat + 1)))
 (o16:q32 b ls d i y k (0<=y))
 (o17:q32 b ls d i y k (y < (↑3:Int)))
 (o18:q32 b ls d i y k (y.toNat < 3))
 (o19:q32 b ls d i y k (∀ (i30:Nat),i30 < 3->Decidable.rec (fun (h:¬i30=y.toNat)=>[iv (d.used i30)]) (fun (h:i30=y.toNat)=>[iv (d.used y.toNat + 1)] ++ []) (instDecidableEqNat i30 y.toNat) = [iv ((Desk.mk d.room (setF d.used y.toNat (d.used y.toNat + 1)) d.cost).used i30)]))
 (o20:q32 b ls d i y k (0<=y))
 (o21:q32 b ls d i y k (y < (↑3:Int)))
 (o22:q32 b ls d i y k (y.toNat < 3))
 (o23:q33 b ls d i y k (inI (d.cost + (ctB b y.toNat).pence)))
 (o24:q33 b ls d i y k (0<=y))
 (o25:q33 b ls d i y k (y < (↑3:Int)))
 (o26:q33 b ls d i y k (y.toNat < 3))
 (o27:q33 b ls d i y k (0<=((stds b).getD i default).ad))
 (o28:q33 b ls d i y k (((stds b).getD i default).ad < (↑(ls.length):Int)))
 (o29:q33 b ls d i y k (inI ((Desk.mk d.room (setF d.used y.toNat (d.used y.toNat + 1)) d.cost).room y.toNat - ls.getD ((stds b).getD i default).ad.toNat 0)))
 (o30:q33 b ls d i y k (0<=y))
 (o31:q33 b ls d i y k (y < (↑3:Int)))
 (o32:q33 b ls d i y k (y.toNat < 3))
 (o33:q33 b ls d i y k (∀ (i35:Nat),i35 < 3->Decidable.rec (fun (h:¬i35=y.toNat)=>[iv ((Desk.mk d.room (setF d.used y.toNat (d.used y.toNat + 1)) d.cost).room i35)]) (fun (h:i35=y.toNat)=>[iv ((Desk.mk d.room (setF d.used y.toNat (d.used y.toNat + 1)) d.cost).room y.toNat - ls.getD ((stds b).getD i default).ad.toNat 0)] ++ []) (instDecidableEqNat i35 y.toNat) = [iv ((billD b ls d (sdA b i) y).room i35)]))
 (o34:q33 b ls d i y k (∀ (i37:Nat),i37 < 3 -> [iv ((Desk.mk d.room (setF d.used y.toNat (d.used y.toNat + 1)) d.cost).used i37)] = [iv ((billD b ls d (sdA b i) y).used i37)]))
 (o35:q33 b ls d i y k (d.cost + (ctB b y.toNat).pence=(billD b ls d (sdA b i) y).cost))
 (o36:q33 b ls d i y k (inI ((ctB b y.toNat).frm + (ctB b y.toNat).days)))
 (o37:q33 b ls d i y k (inI ((ctB b y.toNat).frm + (ctB b y.toNat).days - 1)))
 (o38:q34 b ls d i y k (0<=y))
 (o39:q34 b ls d i y k (y < (↑3:Int)))
 (o40:q34 b ls d i y k (y.toNat < 3))
 (o41:q33 b ls d i y k ((bif within ((stds b).getD i default).day (ctB b y.toNat).frm ((ctB b y.toNat).frm + (ctB b y.toNat).days - 1) then decide (0<=(billD b ls d (sdA b i) y).room y.toNat) else false)=billOK b ls d (sdA b i) y))
 (o42:q35 b ls d i y k (0<=y))
 (o43:q35 b ls d i y k (y < (↑3:Int)))
 (o44:q35 b ls d i y k (y.toNat < 3))
 (o45:q35 b ls d i y k (0<=((stds b).getD i default).ad))
 (o46:q35 b ls d i y k (((stds b).getD i default).ad < (↑(ls.length):Int)))
 (o47:q35 b ls d i y k (inI ((Desk.mk d.room (setF d.used y.toNat (d.used y.toNat + 1)) d.cost).room y.toNat - ls.getD ((stds b).getD i default).ad.toNat 0)))
 (o48:q35 b ls d i y k (0<=y))
 (o49:q35 b ls d i y k (y < (↑3:Int)))
 (o50:q35 b ls d i y k (y.toNat < 3))
 (o51:q35 b ls d i y k (∀ (i57:Nat),i57 < 3->Decidable.rec (fun (h:¬i57=y.toNat)=>[iv ((Desk.mk d.room (setF d.used y.toNat (d.used y.toNat + 1)) d.cost).room i57)]) (fun (h:i57=y.toNat)=>[iv ((Desk.mk d.room (setF d.used y.toNat (d.used y.toNat + 1)) d.cost).room y.toNat - ls.getD ((stds b).getD i default).ad.toNat 0)] ++ []) (instDecidableEqNat i57 y.toNat) = [iv ((billD b ls d (sdA b i) y).room i57)]))
 (o52:q35 b ls d i y k (∀ (i59:Nat),i59 < 3 -> [iv ((Desk.mk d.room (setF d.used y.toNat (d.used y.toNat + 1)) d.cost).used i59)] = [iv ((billD b ls d (sdA b i) y).used i59)]))
 (o53:q35 b ls d i y k (d.cost=(billD b ls d (sdA b i) y).cost))
 (o54:q35 b ls d i y k (inI ((ctB b y.toNat).frm + (ctB b y.toNat).days)))
 (o55:q35 b ls d i y k (inI ((ctB b y.toNat).frm + (ctB b y.toNat).days - 1)))
 (o56:q36 b ls d i y k (0<=y))
 (o57:q36 b ls d i y k (y < (↑3:Int)))
 (o58:q36 b ls d i y k (y.toNat < 3))
 (o59:q35 b ls d i y k ((bif within ((stds b).getD i default).day (ctB b y.toNat).frm ((ctB b y.toNat).frm + (ctB b y.toNat).days - 1) then decide (0<=(billD b ls d (sdA b i) y).room y.toNat) else false)=billOK b ls d (sdA b i) y)) :
  Triple Tryz.prog 58 (s58 n b ls d i y k):=by
 refine triple_ptr Tryz.func58 rfl Tryz.call58 T0_ok (n) ([]) ([iv (i:Int),iv y]) (90) (cDk b ls d) (cDk b ls (billD b ls d (sdA b i) y)) (SoundB b/\GoodLn b ls/\i < (stds b).length/\okDk k d/\k<=10) (bv (billOK b ls d (sdA b i) y)) rfl rfl rfl rfl (Nat.le_of_ble_eq_true (by kernel_rfl)) ?_
 intro hpre C hC hE
 obtain ⟨P,w0,E0,av,hA,ro,df⟩:=C
 obtain ⟨rfl,rfl,rfl⟩:=hC
 refine swp_seq ?_
 refine zR [0,1,2] [0] (Ak 1 tv) ?_
 refine swp_seq ?_
 refine zR [0,2,7] [0,89] (Ak 8 (An (An (o0 hpre) (o1 hpre)) (Ak 3 tv))) ?_
 refine swp_seq ?_
 refine swp_seq ?_
 refine zR [0,2,7,20] [0,89] (Ak 2 tv) ?_
 refine zI (decide (y = -1)) (fun y0 => ?_) (fun y0 => ?_)
 ·refine swp_seq ?_
  refine zC ([(13,CallSpec.eq (s81 b ((stds b).getD i default) ls) [true,true,true])]) [] [0] (Ak 13 (An (An (An (zr (AV.rp (cWk b))) (An (zr (AV.agg (cSday ((stds b).getD i default)))) (An (zr (aInts ls)) tv))) (An (t81 (b) ((stds b).getD i default) (ls)) (An (An hpre.1 (An (o2 hpre y0) (o3 hpre y0))) (Ak 1 (fun (i1:Env)=>tv))))) (An (o4 hpre y0) (Ak 3 tv)))) ?_
  refine swp_seq ?_
  refine zR [6] [0] (Ak 1 tv) ?_
  refine swp_ret ?_
  exact zP ([AV.rp (cWk b),aInts ls,AV.arr 1 3 fun (i:Nat)=>[iv (d.room i)],AV.arr 1 3 fun (i:Nat)=>[iv (d.used i)],iv (d.cost + singleP b ls ((stds b).getD i default))]) (An (Ak 1 tv) (An (An (cb (o5 hpre y0)) (zr nilN)) (An (zr true) (An (zr true) (zr true))))) (o6 hpre y0)
 ·refine swp_skip ?_
  refine swp_seq ?_
  refine swp_seq ?_
  refine zR [0,2,7,52] [0,89] (Ak 3 (An (fun (y2:(!decide (y < 0))=true)=>(An (Ak 1 tv) tv)) (An (fun (y3:(!decide (y < 0))=true)=>(An (Ak 1 tv) tv)) (An (fun (y4:(!decide (y < 0))=true)=>(An (An (fun (y5:(!decide (y < 0))=true)=>y4) tv) tv)) (An (fun (y6:(!decide (y < 0))=true)=>(An (An (fun (y7:(!decide (y < 0))=true)=>y6) tv) tv)) (An (fun (y8:(!decide (y < 0))=true)=>(An (An (fun (y9:(!decide (y < 0))=true)=>y8) tv) tv)) (An (fun (y10:(!decide (y < 0))=true)=>(An (An (fun (y11:(!decide (y < 0))=true)=>y10) tv) tv)) (An (fun (y12:(!decide (y < 0))=true)=>(An (An (fun (y13:(!decide (y < 0))=true)=>y12) tv) tv)) (An (fun (y14:(!decide (y < 0))=true)=>(An (An (fun (y15:(!decide (y < 0))=true)=>y14) tv) tv)) (An (fun (y16:(!decide (y < 0))=true)=>(An (An (fun (y17:(!decide (y < 0))=true)=>y16) tv) tv)) (An (fun (y18:(!decide (y < 0))=true)=>(An (An (fun (y19:(!decide (y < 0))=true)=>y18) tv) tv)) (An (fun (y20:(!decide (y < 0))=true)=>(An (An (fun (y21:(!decide (y < 0))=true)=>y20) (An (fun (y22:(!decide (y < 0))=true)=>y20) tv)) tv)) (An (An (fun (y23:decide (y < 0)=true)=>tv) (fun (y24:decide (y < 0)=false)=>(o7 hpre y0 y24))) tv))))))))))))) ?_
  refine zI (bif decide (y < 0) then true else decide ((↑(b.ctrs.length):Int)<=y)) (fun y25 => ?_) (fun y25 => ?_)
  ·refine swp_seq ?_
   refine zR [6] [0] (Ak 1 tv) ?_
   refine swp_ret ?_
   exact zP (cDk b ls d) (An (Ak 1 tv) (An (An (cb (o8 hpre y0 y25)) (zr nilN)) (An (zr true) (An (zr true) (zr true))))) (o9 hpre y0 y25)
  ·refine swp_skip ?_
   refine swp_seq ?_
   refine zR [0,2,7,8] [0,89,329] (Ak 9 (An (An (o10 hpre y0 y25) (o11 hpre y0 y25)) (Ak 3 tv))) ?_
   refine swp_seq ?_
   refine swp_seq ?_
   refine zR [0,2,7,8] [0,89,329] (Ak 4 (An (An (o12 hpre y0 y25) (o13 hpre y0 y25)) (An (An (o14 hpre y0 y25) tv) (An (o15 hpre y0 y25) (Ak 2 (An (An (o16 hpre y0 y25) (o17 hpre y0 y25)) (An (An (o18 hpre y0 y25) tv) tv))))))) ?_
   refine swp_seq ?_
   refine swp_ent (zEp (st2:=ASt.mk [(0,AV.ptr 0 []),(2,iv y),(7,AV.ptr 89 []),(8,AV.ptr 329 [])] [(0,OB.cells 90 (cDk b ls (Desk.mk d.room (setF d.used y.toNat (d.used y.toNat + 1)) d.cost))),(89,OB.cells 54 (cSday ((stds b).getD i default))),(329,OB.cells 68 (cCtr (ctB b y.toNat)))] 433) hE [] [(0,.same 0),(89,.same 89),(329,.same 329)] [2] [89,329] (An (An (An (zr (some (Src.same 0))) (zr nilP)) (An (An (zr (iv y)) (zr true)) (An (An (zr (some (Src.same 89))) (zr nilP)) (An (An (zr (some (Src.same 329))) (zr nilP)) tv)))) (An (An (An (zr 90) (An (An (An (zr (AV.rp (cWk b))) (zr nilN)) (An (An (zr 1) (An (zr ls.length) (fun (i26:Nat)=>(fun (y27:i26 < ls.length)=>(zr ([iv (ls.getD i26 0)])))))) (An (An (zr 1) (An (zr 3) (fun (i28:Nat)=>(fun (y29:i28 < 3)=>(zr ([iv (d.room i28)])))))) (An (An (zr 1) (An (zr 3) (fun (i30:Nat)=>(fun (y31:i30 < 3)=>(o19 hpre y0 y25 i30 y31))))) (An (An (zr (iv d.cost)) (zr nilN)) tv))))) (zr true))) (An (An (zr (OB.cells 54 (cSday ((stds b).getD i default)))) (zr true)) (An (An (zr (OB.cells 68 (cCtr (ctB b y.toNat)))) (zr true)) tv))) (An (zr true) (zr true))))) ?_
   refine zR [0,2,7,8,80] [0,89,329] (Ak 4 (An (An (o20 hpre y0 y25) (o21 hpre y0 y25)) (An (An (o22 hpre y0 y25) tv) (Ak 1 tv)))) ?_
   refine zI (decide ((Desk.mk d.room (setF d.used y.toNat (d.used y.toNat + 1)) d.cost).used y.toNat=1)) (fun y32 => ?_) (fun y32 => ?_)
   ·refine zR [0,2,7,8] [0,89,329] (Ak 6 (An (o23 hpre y0 y25 y32) (Ak 3 tv))) ?_
    refine swp_seq ?_
    refine zR [0,2,7,8] [0,89,329] (Ak 4 (An (An (o24 hpre y0 y25 y32) (o25 hpre y0 y25 y32)) (An (An (o26 hpre y0 y25 y32) tv) (Ak 6 (An (An (o27 hpre y0 y25 y32) (o28 hpre y0 y25 y32)) (Ak 1 (An (o29 hpre y0 y25 y32) (Ak 2 (An (An (o30 hpre y0 y25 y32) (o31 hpre y0 y25 y32)) (An (An (o32 hpre y0 y25 y32) tv) tv)))))))))) ?_
    refine swp_seq ?_
    refine swp_ent (zEp (st2:=ASt.mk [(0,AV.ptr 0 []),(2,iv y),(7,AV.ptr 89 []),(8,AV.ptr 329 [])] [(0,OB.cells 90 (cDk b ls (billD b ls d (sdA b i) y))),(89,OB.cells 54 (cSday ((stds b).getD i default))),(329,OB.cells 68 (cCtr (ctB b y.toNat)))] 721) hE [] [(0,.same 0),(89,.same 89),(329,.same 329)] [2] [89,329] (An (An (An (zr (some (Src.same 0))) (zr nilP)) (An (An (zr (iv y)) (zr true)) (An (An (zr (some (Src.same 89))) (zr nilP)) (An (An (zr (some (Src.same 329))) (zr nilP)) tv)))) (An (An (An (zr 90) (An (An (An (zr (AV.rp (cWk b))) (zr nilN)) (An (An (zr 1) (An (zr ls.length) (fun (i33:Nat)=>(fun (y34:i33 < ls.length)=>(zr ([iv (ls.getD i33 0)])))))) (An (An (zr 1) (An (zr 3) (fun (i35:Nat)=>(fun (y36:i35 < 3)=>(o33 hpre y0 y25 y32 i35 y36))))) (An (An (zr 1) (An (zr 3) (fun (i37:Nat)=>(fun (y38:i37 < 3)=>(o34 hpre y0 y25 y32 i37 y38))))) (An (An (ci (o35 hpre y0 y25 y32)) (zr nilN)) tv))))) (zr true))) (An (An (zr (OB.cells 54 (cSday ((stds b).getD i default)))) (zr true)) (An (An (zr (OB.cells 68 (cCtr (ctB b y.toNat)))) (zr true)) tv))) (An (zr true) (zr true))))) ?_
    refine zC ([(10,CallSpec.eq (s62 ((stds b).getD i default).day (ctB b y.toNat).frm ((ctB b y.toNat).frm + (ctB b y.toNat).days - 1)) [true,true,true])]) [6] [0] (Ak 8 (An (o36 hpre y0 y25 y32) (An (o37 hpre y0 y25 y32) (An (An (An (zr (iv ((stds b).getD i default).day)) (An (zr (iv (ctB b y.toNat).frm)) (An (zr (iv ((ctB b y.toNat).frm + (ctB b y.toNat).days - 1))) tv))) (An (t62 ((stds b).getD i default).day (ctB b y.toNat).frm ((ctB b y.toNat).frm + (ctB b y.toNat).days - 1)) (Ak 2 (fun (i39:Env)=>tv)))) (Ak 1 (An (fun (y40:within ((stds b).getD i default).day (ctB b y.toNat).frm ((ctB b y.toNat).frm + (ctB b y.toNat).days - 1)=true)=>(An (Ak 1 tv) tv)) (An (fun (y41:within ((stds b).getD i default).day (ctB b y.toNat).frm ((ctB b y.toNat).frm + (ctB b y.toNat).days - 1)=true)=>(An (Ak 1 tv) tv)) (An (fun (y42:within ((stds b).getD i default).day (ctB b y.toNat).frm ((ctB b y.toNat).frm + (ctB b y.toNat).days - 1)=true)=>(An (An (fun (y43:within ((stds b).getD i default).day (ctB b y.toNat).frm ((ctB b y.toNat).frm + (ctB b y.toNat).days - 1)=true)=>y42) tv) tv)) (An (fun (y44:within ((stds b).getD i default).day (ctB b y.toNat).frm ((ctB b y.toNat).frm + (ctB b y.toNat).days - 1)=true)=>(An (An (fun (y45:within ((stds b).getD i default).day (ctB b y.toNat).frm ((ctB b y.toNat).frm + (ctB b y.toNat).days - 1)=true)=>y44) tv) tv)) (An (fun (y46:within ((stds b).getD i default).day (ctB b y.toNat).frm ((ctB b y.toNat).frm + (ctB b y.toNat).days - 1)=true)=>(An (An (fun (y47:within ((stds b).getD i default).day (ctB b y.toNat).frm ((ctB b y.toNat).frm + (ctB b y.toNat).days - 1)=true)=>y46) (An (fun (y48:within ((stds b).getD i default).day (ctB b y.toNat).frm ((ctB b y.toNat).frm + (ctB b y.toNat).days - 1)=true)=>y46) tv)) (An (o38 hpre y0 y25 y32 y46) (o39 hpre y0 y25 y32 y46)))) (An (fun (y49:within ((stds b).getD i default).day (ctB b y.toNat).frm ((ctB b y.toNat).frm + (ctB b y.toNat).days - 1)=true)=>(An (An (fun (y50:within ((stds b).getD i default).day (ctB b y.toNat).frm ((ctB b y.toNat).frm + (ctB b y.toNat).days - 1)=true)=>y49) tv) (An (o40 hpre y0 y25 y32 y49) tv))) (An (fun (y51:within ((stds b).getD i default).day (ctB b y.toNat).frm ((ctB b y.toNat).frm + (ctB b y.toNat).days - 1)=true)=>(An (An (fun (y52:within ((stds b).getD i default).day (ctB b y.toNat).frm ((ctB b y.toNat).frm + (ctB b y.toNat).days - 1)=true)=>y51) (Ak 1 tv)) tv)) (An (An (fun (y53:within ((stds b).getD i default).day (ctB b y.toNat).frm ((ctB b y.toNat).frm + (ctB b y.toNat).days - 1)=true)=>y53) (fun (y54:within ((stds b).getD i default).day (ctB b y.toNat).frm ((ctB b y.toNat).frm + (ctB b y.toNat).days - 1)=false)=>tv)) (Ak 1 tv)))))))))))))) ?_
    refine swp_ret ?_
    exact zP (cDk b ls (billD b ls d (sdA b i) y)) (An (Ak 1 tv) (An (An (cb (o41 hpre y0 y25 y32)) (zr nilN)) (An (zr true) (An (zr true) (zr true))))) rfl
   ·refine swp_skip ?_
    refine swp_seq ?_
    refine zR [0,2,7,8] [0,89,329] (Ak 4 (An (An (o42 hpre y0 y25 y32) (o43 hpre y0 y25 y32)) (An (An (o44 hpre y0 y25 y32) tv) (Ak 6 (An (An (o45 hpre y0 y25 y32) (o46 hpre y0 y25 y32)) (Ak 1 (An (o47 hpre y0 y25 y32) (Ak 2 (An (An (o48 hpre y0 y25 y32) (o49 hpre y0 y25 y32)) (An (An (o50 hpre y0 y25 y32) tv) tv)))))))))) ?_
    refine swp_seq ?_
    refine swp_ent (zEp (st2:=ASt.mk [(0,AV.ptr 0 []),(2,iv y),(7,AV.ptr 89 []),(8,AV.ptr 329 [])] [(0,OB.cells 90 (cDk b ls (billD b ls d (sdA b i) y))),(89,OB.cells 54 (cSday ((stds b).getD i default))),(329,OB.cells 68 (cCtr (ctB b y.toNat)))] 641) hE [] [(0,.same 0),(89,.same 89),(329,.same 329)] [2] [89,329] (An (An (An (zr (some (Src.same 0))) (zr nilP)) (An (An (zr (iv y)) (zr true)) (An (An (zr (some (Src.same 89))) (zr nilP)) (An (An (zr (some (Src.same 329))) (zr nilP)) tv)))) (An (An (An (zr 90) (An (An (An (zr (AV.rp (cWk b))) (zr nilN)) (An (An (zr 1) (An (zr ls.length) (fun (i55:Nat)=>(fun (y56:i55 < ls.length)=>(zr ([iv (ls.getD i55 0)])))))) (An (An (zr 1) (An (zr 3) (fun (i57:Nat)=>(fun (y58:i57 < 3)=>(o51 hpre y0 y25 y32 i57 y58))))) (An (An (zr 1) (An (zr 3) (fun (i59:Nat)=>(fun (y60:i59 < 3)=>(o52 hpre y0 y25 y32 i59 y60))))) (An (An (ci (o53 hpre y0 y25 y32)) (zr nilN)) tv))))) (zr true))) (An (An (zr (OB.cells 54 (cSday ((stds b).getD i default)))) (zr true)) (An (An (zr (OB.cells 68 (cCtr (ctB b y.toNat)))) (zr true)) tv))) (An (zr true) (zr true))))) ?_
    refine zC ([(10,CallSpec.eq (s62 ((stds b).getD i default).day (ctB b y.toNat).frm ((ctB b y.toNat).frm + (ctB b y.toNat).days - 1)) [true,true,true])]) [6] [0] (Ak 8 (An (o54 hpre y0 y25 y32) (An (o55 hpre y0 y25 y32) (An (An (An (zr (iv ((stds b).getD i default).day)) (An (zr (iv (ctB b y.toNat).frm)) (An (zr (iv ((ctB b y.toNat).frm + (ctB b y.toNat).days - 1))) tv))) (An (t62 ((stds b).getD i default).day (ctB b y.toNat).frm ((ctB b y.toNat).frm + (ctB b y.toNat).days - 1)) (Ak 2 (fun (i61:Env)=>tv)))) (Ak 1 (An (fun (y62:within ((stds b).getD i default).day (ctB b y.toNat).frm ((ctB b y.toNat).frm + (ctB b y.toNat).days - 1)=true)=>(An (Ak 1 tv) tv)) (An (fun (y63:within ((stds b).getD i default).day (ctB b y.toNat).frm ((ctB b y.toNat).frm + (ctB b y.toNat).days - 1)=true)=>(An (Ak 1 tv) tv)) (An (fun (y64:within ((stds b).getD i default).day (ctB b y.toNat).frm ((ctB b y.toNat).frm + (ctB b y.toNat).days - 1)=true)=>(An (An (fun (y65:within ((stds b).getD i default).day (ctB b y.toNat).frm ((ctB b y.toNat).frm + (ctB b y.toNat).days - 1)=true)=>y64) tv) tv)) (An (fun (y66:within ((stds b).getD i default).day (ctB b y.toNat).frm ((ctB b y.toNat).frm + (ctB b y.toNat).days - 1)=true)=>(An (An (fun (y67:within ((stds b).getD i default).day (ctB b y.toNat).frm ((ctB b y.toNat).frm + (ctB b y.toNat).days - 1)=true)=>y66) tv) tv)) (An (fun (y68:within ((stds b).getD i default).day (ctB b y.toNat).frm ((ctB b y.toNat).frm + (ctB b y.toNat).days - 1)=true)=>(An (An (fun (y69:within ((stds b).getD i default).day (ctB b y.toNat).frm ((ctB b y.toNat).frm + (ctB b y.toNat).days - 1)=true)=>y68) (An (fun (y70:within ((stds b).getD i default).day (ctB b y.toNat).frm ((ctB b y.toNat).frm + (ctB b y.toNat).days - 1)=true)=>y68) tv)) (An (o56 hpre y0 y25 y32 y68) (o57 hpre y0 y25 y32 y68)))) (An (fun (y71:within ((stds b).getD i default).day (ctB b y.toNat).frm ((ctB b y.toNat).frm + (ctB b y.toNat).days - 1)=true)=>(An (An (fun (y72:within ((stds b).getD i default).day (ctB b y.toNat).frm ((ctB b y.toNat).frm + (ctB b y.toNat).days - 1)=true)=>y71) tv) (An (o58 hpre y0 y25 y32 y71) tv))) (An (fun (y73:within ((stds b).getD i default).day (ctB b y.toNat).frm ((ctB b y.toNat).frm + (ctB b y.toNat).days - 1)=true)=>(An (An (fun (y74:within ((stds b).getD i default).day (ctB b y.toNat).frm ((ctB b y.toNat).frm + (ctB b y.toNat).days - 1)=true)=>y73) (Ak 1 tv)) tv)) (An (An (fun (y75:within ((stds b).getD i default).day (ctB b y.toNat).frm ((ctB b y.toNat).frm + (ctB b y.toNat).days - 1)=true)=>y75) (fun (y76:within ((stds b).getD i default).day (ctB b y.toNat).frm ((ctB b y.toNat).frm + (ctB b y.toNat).days - 1)=false)=>tv)) (Ak 1 tv)))))))))))))) ?_
    refine swp_ret ?_
    exact zP (cDk b ls (billD b ls d (sdA b i) y)) (An (Ak 1 tv) (An (An (cb (o59 hpre y0 y25 y32)) (zr nilN)) (An (zr true) (An (zr true) (zr true))))) rfl
section
variable {b:Book} {ls:List Int} {d:Desk} {s:Sday} {y:Int}
theorem bill_sgl:billD b ls d s (-1) = { d with cost:=d.cost + singleP b ls s }:=by unfold billD; rw [if_pos rfl]
theorem isCt_iff:isCt b y=true ↔ 0<=y/\y < b.ctrs.length:=by unfold isCt; rw [Go.Sh.within_iff]; omega
theorem bill_ct (h:0<=y/\y < b.ctrs.length):billD b ls d s y=⟨setF d.room y.toNat (d.room y.toNat - ls.getD s.ad.toNat 0),setF d.used y.toNat (d.used y.toNat + 1),if d.used y.toNat + 1=1 then d.cost + (ctB b y.toNat).pence else d.cost⟩:=by
 unfold billD; rw [if_neg (by omega),if_pos (isCt_iff.2 h)]
theorem bill_out (h:y < 0 ∨ (b.ctrs.length:Int)<=y) (h1:y ≠ -1):billD b ls d s y=d/\billOK b ls d s y=false:=by
 have:isCt b y=false:=by
  cases e:isCt b y with
  | false=>rfl
  | true=>have:=isCt_iff.1 e; omega
 unfold billD billOK
 rw [if_neg h1,if_neg h1,this]
 exact ⟨rfl,rfl⟩
theorem ok_ct (h:0<=y/\y < b.ctrs.length):billOK b ls d s y=(inWin (ctB b y.toNat) s.day && decide (0<=d.room y.toNat - ls.getD s.ad.toNat 0)):=by
 unfold billOK; rw [if_neg (by omega),isCt_iff.2 h,Bool.true_and]
theorem setF_self (g:Nat->Int) (k:Nat) (v:Int):setF g k v k=v:=if_pos rfl
theorem setF_ne (g:Nat->Int) {k i:Nat} (v:Int) (h:i ≠ k):setF g k v i=g i:=if_neg h
end
theorem okDk_in {k:Nat} {d:Desk} (h:okDk k d) (hk:k<=10) (i:Nat):(-100<=d.room i/\d.room i<=99)/\(0<=d.used i/\d.used i<=10)/\0<=d.cost/\d.cost<=990:=by
 have h1:=h.1 i
 have h2:=h.2.1 i
 have h3:=h.2.2
 refine ⟨⟨by omega,by omega⟩,⟨by omega,by omega⟩,by omega,by omega⟩
theorem t58 (n:Nat) (b:Book) (ls:List Int) (d:Desk) (i:Nat) (y:Int) (k:Nat):Triple Tryz.prog 58 (s58 n b ls d i y k):=by
 apply w58
 all_goals (try delta q30 q31 q32 q33 q34 q35 q36)
 all_goals (rintro ⟨hs,hl,hi,hd,hk⟩)
 all_goals (have hm:(stds b).getD i default ∈ stds b:=getD_mem _ _ hi)
 all_goals (have hday:=std_day hm; have had:=std_ad hl hm; have hsg:=single_in hs hl (sdA b i); have hctr:=hs.ctrs)
 all_goals (have hdi:=okDk_in hd hk 0)
 case o0=>omega
 case o1=>omega
 case o2=>intro _; exact hl
 case o3=>intro _; exact hm
 case o4=>intro _; unfold sdA at hsg; simp only [inI]; omega
 case o5=>intro h; rw [of_decide_eq_true h]; rfl
 case o6=>intro h; rw [of_decide_eq_true h,bill_sgl]; rfl
 all_goals (intro h0; simp only [decide_eq_false_iff_not] at h0)
 case o7=>intro h; rw [h]; rfl
 case o8=>intro h; simp only [Bool.cond_true_left,Bool.or_eq_true,decide_eq_true_eq] at h; exact (bill_out h h0).2.symm
 case o9=>intro h; simp only [Bool.cond_true_left,Bool.or_eq_true,decide_eq_true_eq] at h; rw [(bill_out h h0).1]
 all_goals (intro h; simp only [Bool.cond_true_left,Bool.or_eq_false_iff,decide_eq_false_iff_not] at h)
 all_goals (have hc:0<=y/\y < b.ctrs.length:=by omega)
 all_goals (have hdy:=okDk_in hd hk y.toNat; have hct:=hs.ctr y.toNat (by omega))
 case o10 | o11 | o12 | o13 | o14 | o16 | o17 | o18 | o20 | o21 | o22=>all_goals omega
 case o15=>simp only [inI]; omega
 case o19 =>
  intro j hj
  show _ = [iv (setF d.used y.toNat (d.used y.toNat + 1) j)]
  refine rec_ei8 (fun h => ?_) (fun h => ?_)
  ·rw [setF_ne _ _ h]
  ·rw [h,setF_self]; rfl
 all_goals (intro hu; simp only [setF_self,decide_eq_true_eq,decide_eq_false_iff_not] at hu)
 all_goals (have hg:=hl.2 ((stds b).getD i default).ad.toNat)
 case o23=>simp only [inI]; omega
 case o29 | o47=>all_goals (show inI (d.room y.toNat - _); simp only [inI]; omega)
 case o33 | o51=>all_goals (
  intro j hj
  rw [bill_ct hc]
  refine rec_ei8 (fun h => ?_) (fun h => ?_)
  ·show _ = [iv (setF _ _ _ j)]
   rw [setF_ne _ _ h]
  ·show _ = [iv (setF _ _ _ j)]
   rw [h,setF_self]; rfl)
 case o34 | o52=>all_goals (intro j hj; rw [bill_ct hc])
 case o35=>rw [bill_ct hc]; show _=if _ then _ else _; rw [if_pos hu]
 case o53=>rw [bill_ct hc]; show _=if _ then _ else _; rw [if_neg hu]
 case o36 | o37 | o54 | o55=>all_goals (simp only [inI]; omega)
 case o41 | o59=>all_goals (
  rw [Bool.cond_false_right,bill_ct hc,ok_ct hc]
  show (_ && decide (0<=setF _ _ _ y.toNat))=_
  rw [setF_self]; rfl)
 all_goals (try (intro _))
 all_goals omega
end Go.Ab
namespace Go.Sh
def idxW (l:List Int) (P:Int->Bool):Int:=match l.findIdx? P with | some i=>i | none => -1
theorem idxW_found {l:List Int} {P:Int->Bool} {x:Nat} (hx:x < l.length) (h:∀ j,j < x->P (l.getD j 0)=false) (hp:P (l.getD x 0)=true):idxW l P=x:=by
 have:l.findIdx? P=some x:=by
  rw [List.findIdx?_eq_some_iff_getElem]
  refine ⟨hx,by rw [← Go.Ab.getD_lt l 0 hx]; exact hp,fun j hj => ?_⟩
  rw [← Go.Ab.getD_lt l 0 (by omega),h j hj]; simp
 simp [idxW,this]
theorem idxW_none {l:List Int} {P:Int->Bool} (h:∀ j,j < l.length->P (l.getD j 0)=false):idxW l P = -1:=by
 have:l.findIdx? P=none:=by
  rw [List.findIdx?_eq_none_iff]
  intro x hx
  have h1:=Go.Ab.any_idx l 0 P h
  rw [List.any_eq_false] at h1
  simpa using h1 x hx
 simp [idxW,this]
theorem idxW_spec (l:List Int) (P:Int->Bool):(idxW l P = -1 /\ ∀ w,w ∈ l->P w=false) ∨ ∃ i:Nat,idxW l P=i/\i < l.length/\P (l.getD i 0)=true /\ ∀ j,j < i->P (l.getD j 0)=false:=by
 unfold idxW
 cases e:l.findIdx? P with
 | none =>
  left
  rw [List.findIdx?_eq_none_iff] at e
  exact ⟨rfl,e⟩
 | some i =>
  right
  rw [List.findIdx?_eq_some_iff_getElem] at e
  obtain ⟨h,h1,h2⟩:=e
  refine ⟨i,rfl,h,by rw [Go.Ab.getD_lt l 0 h]; exact h1,fun j hj => ?_⟩
  rw [Go.Ab.getD_lt l 0 (by omega)]
  simpa using h2 j hj
def keptW (l:List Int) (P:Int->Bool) (n:Nat):List Int:=(l.take n).filter fun w => !P w
def delW (l:List Int) (P:Int->Bool):List Int:=l.filter fun w => !P w
theorem keptW_t {l:List Int} {P:Int->Bool} {n:Nat} (h:n < l.length) (hp:P (l.getD n 0)=true):keptW l P (n + 1)=keptW l P n:=by
 unfold keptW; rw [Go.Ab.take_succ _ 0 h,List.filter_append,List.filter_cons_of_neg (by rw [hp]; exact Bool.false_ne_true),List.filter_nil,List.append_nil]
theorem keptW_f {l:List Int} {P:Int->Bool} {n:Nat} (h:n < l.length) (hp:P (l.getD n 0)=false):keptW l P (n + 1)=keptW l P n ++ [l.getD n 0]:=by
 unfold keptW; rw [Go.Ab.take_succ _ 0 h,List.filter_append,List.filter_cons_of_pos (by rw [hp]; rfl)]; rfl
theorem keptW_len (l:List Int) (P:Int->Bool) (n:Nat):(keptW l P n).length<=n:=by
 unfold keptW; exact Nat.le_trans (List.length_filter_le _ _) (by rw [List.length_take]; omega)
theorem keptW_full {l:List Int} {P:Int->Bool} {n:Nat} (h:l.length<=n):keptW l P n=delW l P:=by
 unfold keptW delW; rw [List.take_of_length_le h]
theorem keptW_first {l:List Int} {P:Int->Bool}:∀ {n:Nat},n<=l.length->(∀ j,j < n->P (l.getD j 0)=false)->keptW l P n=l.take n:=by
 intro n
 induction n with
 | zero=>intro _ _; rfl
 | succ n ih=>intro h h1; rw [keptW_f (by omega) (h1 n (by omega)),ih (by omega) (fun j hj=>h1 j (by omega)),Go.Ab.take_succ _ 0 (by omega)]
def rowW (l:List Int) (P:Int->Bool) (n q:Nat):Int:=if q < (keptW l P n).length then (keptW l P n).getD q 0 else l.getD q 0
def firstD (l:List Int) (P:Int->Bool):Nat:=(idxW l P).toNat
theorem first_spec {l:List Int} {P:Int->Bool} (h:decide (idxW l P = -1)=false):idxW l P=firstD l P/\firstD l P < l.length/\P (l.getD (firstD l P) 0)=true /\ ∀ j,j < firstD l P->P (l.getD j 0)=false:=by
 have h0:idxW l P ≠ -1:=of_decide_eq_false h
 rcases idxW_spec l P with ⟨e,_⟩ | ⟨i,e,h1,h2,h3⟩
 ·exact absurd e h0
 ·have:firstD l P=i:=by unfold firstD; rw [e]; rfl
  rw [this]; exact ⟨e,h1,h2,h3⟩
theorem kept_first {l:List Int} {P:Int->Bool} (h:decide (idxW l P = -1)=false):keptW l P (firstD l P + 1)=l.take (firstD l P)/\(keptW l P (firstD l P + 1)).length=firstD l P:=by
 obtain ⟨_,h1,h2,h3⟩:=first_spec h
 have:keptW l P (firstD l P + 1)=l.take (firstD l P):=by rw [keptW_t h1 h2,keptW_first (by omega) h3]
 exact ⟨this,by rw [this,List.length_take]; omega⟩
theorem kept_lt {l:List Int} {P:Int->Bool} (h:decide (idxW l P = -1)=false):∀ j,firstD l P + 1<=j->j<=l.length->(keptW l P j).length < j:=by
 intro j h1
 induction j with
 | zero=>omega
 | succ j ih =>
  intro h2
  by_cases e:j=firstD l P
  ·rw [e,(kept_first h).2]; omega
  ·have h3:=ih (by omega) (by omega)
   cases hp:P (l.getD j 0) with
   | true=>rw [keptW_t (by omega) hp]; omega
   | false=>rw [keptW_f (by omega) hp,List.length_append]; simp; omega
theorem rowW_self (l:List Int) (P:Int->Bool) (j:Nat):rowW l P j j=l.getD j 0:=by
 unfold rowW; rw [if_neg (by have:=keptW_len l P j; omega)]
theorem rowW_t {l:List Int} {P:Int->Bool} {j:Nat} (h:j < l.length) (hp:P (l.getD j 0)=true) (q:Nat):rowW l P (j + 1) q=rowW l P j q:=by unfold rowW; rw [keptW_t h hp]
theorem rowW_f {l:List Int} {P:Int->Bool} {j:Nat} (h:j < l.length) (hp:P (l.getD j 0)=false) (q:Nat):rowW l P (j + 1) q=if q=(keptW l P j).length then l.getD j 0 else rowW l P j q:=by
 unfold rowW
 rw [keptW_f h hp,List.length_append,List.length_singleton,Go.Ab.getD_append]
 by_cases h1:q < (keptW l P j).length
 ·rw [if_pos (by omega),if_pos h1,if_neg (by omega),if_pos h1]
 ·by_cases h2:q=(keptW l P j).length
  ·subst h2; rw [if_pos (by omega),if_neg h1,if_pos rfl,Nat.sub_self]; rfl
  ·rw [if_neg (by omega),if_neg h2,if_neg h1]
theorem rowW_first {l:List Int} {P:Int->Bool} (h:decide (idxW l P = -1)=false) (q:Nat):rowW l P (firstD l P + 1) q=l.getD q 0:=by
 obtain ⟨h1,h2⟩:=kept_first h
 have h3:=(first_spec h).2.1
 unfold rowW
 rw [h2]
 split
 ·rename_i hq
  rw [h1,Go.Ab.getD_lt _ _ (by rw [List.length_take]; omega),List.getElem_take,Go.Ab.getD_lt _ _ (by omega)]
 ·rfl
theorem del_none {l:List Int} {P:Int->Bool} (h:decide (idxW l P = -1)=true):delW l P=l:=by
 have h0:idxW l P = -1:=of_decide_eq_true h
 rcases idxW_spec l P with ⟨_,h1⟩ | ⟨i,e,_⟩
 ·unfold delW; rw [List.filter_eq_self]; intro w hw; rw [h1 w hw]; rfl
 ·omega
end Go.Sh
namespace Go.Ab
open Go Go.RowKit Go.Proofs Go.Sh Go.En
def s70 (b:Nat) (l:List Int):CallSpec:={ args:=[.vec b],pre:=l.length<=65536,hin:=[(b,rowI 3 l)],res := .tup [],hout:=[(b,rowI 3 (sortI l))] }
theorem t70 (b:Nat) (l:List Int):Triple Tryz.prog 70 (s70 b l):=triple_sort0 Tryz.call70 3 b l (fun k cap w h1 h2 h3=>Tryz.slices_Sort_int k 0 cap l w h1 h2 h3) (fun p cap w=>Tryz.slices_Sort_int_none p cap w)
end Go.Ab
namespace Go.Sh
open Go.Ab
def costE (b:Book) (ls l:List Int):Int:=if okBook b then (if areLnB b ls then (if isBillB b ls l then 0 else 3) else 1) else 80
def costN (b:Book) (ls l:List Int):Int:=if okBook b && areLnB b ls && isBillB b ls l then costB b ls l else 0
def okSt (st:Best):Prop := -1<=st.2/\st.2<=1000
def stepB (b:Book) (ls:List Int) (m:Nat) (d:Desk) (l:List Int) (st:Best) (y:Int):Best:=if billOK b ls d (sdA b l.length) y then fromP b ls m (billD b ls d (sdA b l.length) y) (l ++ [y]) st else st
def fromTo (b:Book) (ls:List Int) (m:Nat) (d:Desk) (l:List Int) (st:Best) (k:Nat):Best:=((bysB b).take k).foldl (stepB b ls m d l) st
def leftB (b:Book) (l:List Int):Nat:=(stds b).length - l.length
def isSgl (y:Int):Bool:=decide (y = -1)
def endD (ws:List Int) (q:Nat):Int:=if q < (delW ws isSgl).length then (delW ws isSgl).getD q 0 else 0
def endC (ws:List Int) (q:Nat):Int:=if q < (cpL 0 ws).length then (cpL 0 ws).getD q 0 else 0
def billL (b:Book) (ls:List Int):List Int:=if okBook b && areLnB b ls then (bestB b ls).1 else []
def owedN (b:Book):Span:=if okBook b then owedB b else ⟨0,0⟩
end Go.Sh
namespace Go.Ab
open Go Go.RowKit Go.Proofs Go.Sh Go.En
abbrev rowZ (l:List Int):OB:=rowI 3 l
def s28 (b:Book) (ls l:List Int):CallSpec:={ args:=[vBk b,aInts ls,aInts l],res := .tup [iv (costN b ls l),iv (costE b ls l)],pre:=smallB b/\ls.length<=60000/\l.length<=60000 }
def h28 (b:Book) (ls l:List Int):Hint:={ X:=Nat,M:=fun i=>[(35,iv i)],H:=fun i=>[(128,.cells 90 (cDk b ls (deskOf b ls (l.take i))))],I:=fun i=>i<=l.length/\pOK b ls (l.take i)/\okDk i (deskOf b ls (l.take i)),mu:=fun i=>l.length - i,x0:=(0:Nat),nx:=fun i=>i + 1 }
def c28s (b:Book) (ls l:List Int):CallSpec:=s57 b ls
def c28 (b:Book) (ls l:List Int) (x:Nat):CallSpec:=s58 128 b ls (deskOf b ls (l.take x)) x (l.getD x 0) x
def cFrom (b:Book):AV := .clo 63 [.ptr 0 [],.rp [vWk b],.ptr 1 [],.ptr 2 []]
def io63 (b:Book) (ls:List Int) (d:Desk) (ws:List Int) (st:Best):IoSpec:={ args:=[vDk b ls d,.vec 3,.ptr 0 [],.rp [vWk b],.ptr 1 [],.ptr 2 []],pre:=SoundB b/\GoodLn b ls/\ws.length<=(stds b).length/\okDk ws.length d/\okSt st,hin:=[(0,.cells 3 [iv st.2]),(1,.cells 27 [.vec 4]),(2,.cells 96 [cFrom b]),(3,rowZ ws),(4,rowZ st.1)],res := .tup [],hout:=[(0,.cells 3 [iv (fromP b ls (leftB b ws) d ws st).2]),(1,.cells 27 [.vec 7]),(2,.cells 96 [cFrom b]),(7,rowZ (fromP b ls (leftB b ws) d ws st).1)] }
def h63 (b:Book) (ls:List Int) (d:Desk) (ws:List Int) (st:Best):Hint:={ X:=Nat,M:=fun k=>[(8,iv ((k:Int) - 1))],H:=fun k=>[(0,.cells 3 [iv (fromTo b ls (leftB b ws - 1) d ws st k).2]),(1,.cells 27 [.vec 6001]),(6001,rowZ (fromTo b ls (leftB b ws - 1) d ws st k).1)],I:=fun k=>k<=b.ctrs.length + 1,mu:=fun k=>b.ctrs.length + 1 - k,x0:=(0:Nat),nx:=fun k=>k + 1 }
def s63 (i3 i4 i5:Nat) (b:Book) (ls:List Int) (d:Desk) (ws:List Int) (st:Best):CallSpec:=(io63 b ls d ws st).at [(0,0),(1,1),(2,2),(3,i3),(4,i4),(7,i5)]
def c63b (b:Book) (ls:List Int) (d:Desk) (ws:List Int) (st:Best) (x:Nat):CallSpec:=s58 10222 b ls d ws.length ((x:Int) - 1) ws.length
def c63r (b:Book) (ls:List Int) (d:Desk) (ws:List Int) (st:Best) (x:Nat) (id:Nat):CallSpec:=s63 (id - 8) 6001 id b ls (billD b ls d (sdA b ws.length) ((x:Int) - 1)) (ws ++ [(x:Int) - 1]) (fromTo b ls (leftB b ws - 1) d ws st x)
def io63n (b:Book) (ls:List Int):IoSpec:={ args:=[vDk b ls (desk0 b),nilv,.ptr 0 [],.rp [vWk b],.ptr 1 [],.ptr 2 []],pre:=SoundB b/\GoodLn b ls,hin:=[(0,.cells 3 [iv (-1)]),(1,.cells 27 [.vec 4]),(2,.cells 96 [cFrom b]),(4,rowZ [])],res := .tup [],hout:=[(0,.cells 3 [iv (bestB b ls).2]),(1,.cells 27 [.vec 7]),(2,.cells 96 [cFrom b]),(7,rowZ (bestB b ls).1)] }
def s63n (i0 i1 i2 i4 i5:Nat) (b:Book) (ls:List Int):CallSpec:=(io63n b ls).at [(0,i0),(1,i1),(2,i2),(4,i4),(7,i5)]
def h63n (b:Book) (ls:List Int):Hint:=h63 b ls (desk0 b) [] ([],-1)
def c63nb (b:Book) (ls:List Int) (x:Nat):CallSpec:=s58 10222 b ls (desk0 b) 0 ((x:Int) - 1) 0
def c63nr (b:Book) (ls:List Int) (x:Nat) (id:Nat):CallSpec:=c63r b ls (desk0 b) [] ([],-1) x id
def focB8:CallSpec:={ args:=[],res := .any }
def ou32 (b:Book) (ls:List Int):OutSpec:={ args:=[vWk b,aInts ls],pre:=SoundB b/\GoodLn b ls,res := .tup [.vec 0,iv (bestB b ls).2],hout:=[(0,rowZ (bestB b ls).1)] }
def s32o (b:Book) (ls:List Int) (id:Nat):CallSpec:=(ou32 b ls).at [(0,id)]
def c32 (b:Book) (ls:List Int) (id:Nat):CallSpec:=s63n 16 8 32 9 id b ls
def ou77 (b:Book):OutSpec:={ args:=[vWk b],pre:=SoundB b,res := .tup [.vec 0,.vec 1],hout:=[(0,rowZ (lowsB b)),(1,rowZ (highsB b))] }
def s77o (b:Book) (id:Nat):CallSpec:=(ou77 b).at [(0,id),(1,id + 1)]
def h77 (b:Book):Hint:={ X:=Nat,M:=fun i=>[(2,.vec 5000),(3,.vec 5001),(12,iv i)],H:=fun i=>[(5000,rowZ ((lowsB b).take i)),(5001,rowZ ((highsB b).take i))],I:=fun i=>i<=b.lines.length,mu:=fun i=>b.lines.length - i,x0:=(0:Nat),nx:=fun i=>i + 1 }
def s44 (b:Book):CallSpec:={ args:=[vWk b],res:=vSpan (owedB b),pre:=SoundB b }
def c44e (b:Book) (id:Nat):CallSpec:=s77o b id
def c44l (b:Book) (id:Nat):CallSpec:=s32o b (lowsB b) id
def c44h (b:Book) (id:Nat):CallSpec:=s32o b (highsB b) id
def s69 (y:Int):CallSpec:={ args:=[iv y],res:=bv (isSgl y) }
def io83b (ws:List Int):IoSpec:={ args:=[.vec 0,.clo 69 []],pre:=ws.length<=65536,hin:=[(0,rowZ ws)],res:=iv (idxW ws isSgl),hout:=[(0,rowZ ws)] }
def s83b (b:Nat) (ws:List Int):CallSpec:=(io83b ws).at [(0,b)]
def h83b (ws:List Int):Hint:={ X:=Nat,M:=fun i=>[(8,iv i)],I:=fun i=>i<=ws.length /\ ∀ j,j < i->isSgl (ws.getD j 0)=false,mu:=fun i=>ws.length - i,x0:=(0:Nat),nx:=fun i=>i + 1 }
def io68b (ws:List Int):IoSpec:={ args:=[.vec 0,.clo 69 []],pre:=ws.length<=65536,hin:=[(0,rowZ ws)],res := .vec 3,hout:=[(3,rowZ (delW ws isSgl))] }
def s68b (b:Nat) (ws:List Int) (id:Nat):CallSpec:=(io68b ws).at [(0,b),(3,id)]
def h68b (ws:List Int):Hint:={ X:=Nat,M:=fun j=>[(5,iv (keptW ws isSgl j).length),(6,iv j)],H:=fun j=>[(0,.vec 3 1 ws.length (fun q=>[iv (rowW ws isSgl j q)]))],I:=fun j=>firstD ws isSgl + 1<=j/\j<=ws.length,mu:=fun j=>ws.length - j,x0:=firstD ws isSgl + 1,nx:=fun j=>j + 1 }
def c68b (ws:List Int):CallSpec:=s83b 0 ws
def io71 (ws:List Int):IoSpec:={ args:=[.vec 0],pre:=ws.length<=65536,hin:=[(0,rowZ ws)],res := .vec 3,hout:=[(3,rowZ (cpL 0 ws))] }
def s71 (b:Nat) (ws:List Int) (id:Nat):CallSpec:=(io71 ws).at [(0,b),(3,id)]
def h71a (ws:List Int):Hint:={ X:=Nat,M:=fun k=>[(3,iv k)],I:=fun k=>1<=k/\k<=ws.length /\ ∀ j,j < k->newAt 0 ws j=true,mu:=fun k=>ws.length - k,x0:=(1:Nat),nx:=fun k=>k + 1 }
def h71b (ws:List Int) (x:Nat):Hint:={ X:=Nat,M:=fun k=>[(3,iv (cpTo 0 ws (x + k)).length),(5,iv k)],H:=fun k=>[(0,rowKI ws (x + k))],I:=fun k=>1<=k/\x + k<=ws.length,mu:=fun k=>ws.length - k,x0:=(1:Nat),nx:=fun k=>k + 1 }
def ou36 (b:Book) (ls:List Int):OutSpec:={ args:=[vWk b,aInts ls],pre:=SoundB b/\GoodLn b ls,res := .vec 0,hout:=[(0,rowZ (boughtB b ls))] }
def s36o (b:Book) (ls:List Int) (id:Nat):CallSpec:=(ou36 b ls).at [(0,id)]
def c36a (b:Book) (ls:List Int) (id:Nat):CallSpec:=s32o b ls id
def c36b (b:Book) (ls:List Int) (id:Nat):CallSpec:=s68b 24 (bestB b ls).1 id
def c36c (b:Book) (ls:List Int):CallSpec:=s70 80 (delW (bestB b ls).1 isSgl)
def c36d (b:Book) (ls:List Int) (id:Nat):CallSpec:=s71 80 (sortI (delW (bestB b ls).1 isSgl)) id
def s10 (b:Book) (ls:List Int):CallSpec:={ args:=[vBk b,aInts ls],res := .tup [aInts (billL b ls),iv (givenE b ls true)],pre:=smallB b/\ls.length<=60000 }
def c10 (b:Book) (ls:List Int) (id:Nat):CallSpec:=s32o b ls id
def c18 (b:Book):CallSpec:=s44 b
def s18 (b:Book):CallSpec:={ args:=[vBk b],res := .tup [vSpan (owedN b),iv (checkB b)],pre:=smallB b }
end Go.Ab
namespace Go.Sh
open Go.Ab
variable {b:Book} {ls l:List Int} {d:Desk} {st:Best}
theorem bys_len (b:Book):(bysB b).length=b.ctrs.length + 1:=by simp [bysB]
theorem bys_get {k:Nat} (h:k < b.ctrs.length + 1):(bysB b).getD k 0=(k:Int) - 1:=by
 unfold bysB
 rw [getD_lt _ _ (by simpa using h),List.getElem_map,List.getElem_range]
theorem fromTo_succ {m k:Nat} (h:k < b.ctrs.length + 1):fromTo b ls m d l st (k + 1)=stepB b ls m d l (fromTo b ls m d l st k) ((k:Int) - 1):=by
 unfold fromTo
 rw [take_succ _ 0 (by rw [bys_len]; exact h),List.foldl_append,bys_get h]; rfl
theorem from_stop (h0:0<=st.2) (h:st.2<=d.cost):∀ m,fromP b ls m d l st=st:=by
 intro m
 cases m <;> rw [fromP,if_pos (by simp [h0,h])]
theorem from_leaf (h:¬ (0<=st.2/\st.2<=d.cost)):fromP b ls 0 d l st=(l,d.cost):=by
 rw [fromP,if_neg (by simpa using h)]
theorem from_all {m:Nat} (h:¬ (0<=st.2/\st.2<=d.cost)):fromP b ls (m + 1) d l st=fromTo b ls m d l st (b.ctrs.length + 1):=by
 rw [fromP,if_neg (by simpa using h)]
 unfold fromTo
 rw [List.take_of_length_le (by rw [bys_len]; exact Nat.le_refl _)]
 rfl
theorem bill_dk (hs:SoundB b) (hl:GoodLn b ls) {k:Nat} (hd:okDk k d) (s:Sday) (y:Int):okDk (k + 1) (billD b ls d s y):=by
 obtain ⟨h1,h2,h3,h4⟩:=hd
 have hsg:=single_in hs hl s
 have hln:=hl.2 s.ad.toNat
 unfold billD
 split
 ·refine ⟨fun i => ?_,fun i => ?_,?_,?_⟩
  ·have:=h1 i; simp only; omega
  ·have:=h2 i; simp only; omega
  ·simp only; omega
  ·simp only; omega
 ·split
  ·rename_i hc
   have hc:=isCt_get hc
   have hp:=(hs.ctr y.toNat (by omega)).2.2.2
   refine ⟨fun i => ?_,fun i => ?_,?_,?_⟩
   ·have:=h1 i; have:=h1 y.toNat
    simp only [setF]; split <;> omega
   ·have:=h2 i; have:=h2 y.toNat
    simp only [setF]; split <;> omega
   ·simp only; split <;> omega
   ·simp only; split <;> omega
  ·refine ⟨fun i => ?_,fun i => ?_,?_,?_⟩
   ·have:=h1 i; omega
   ·have:=h2 i; omega
   ·omega
   ·omega
theorem desk0_dk (hs:SoundB b):okDk 0 (desk0 b):=by
 refine ⟨fun i => ?_,fun i=>⟨Int.le_refl _,Int.le_refl _⟩,Int.le_refl _,Int.le_refl _⟩
 show -10 * ((0:Nat):Int)<=(ctB b i).room/\(ctB b i).room<=99
 by_cases h:i < b.ctrs.length
 ·have:=(hs.ctr i h).2.2.1; omega
 ·have:ctB b i=default:=getD_ge _ _ (by omega)
  rw [this]; show _<=(0:Int)/\(0:Int)<=99; omega
theorem from_ok (hs:SoundB b) (hl:GoodLn b ls):∀ (m k:Nat) (d:Desk) (l:List Int) (st:Best),okDk k d->k + m<=10->okSt st->okSt (fromP b ls m d l st):=by
 intro m
 induction m with
 | zero =>
  intro k d l st hd hk ho
  rw [fromP]
  split
  ·exact ho
  ·have:=hd.2.2
   exact ⟨by show -1<=d.cost; omega,by show d.cost<=1000; omega⟩
 | succ m ih =>
  intro k d l st hd hk ho
  rw [fromP]
  split
  ·exact ho
  ·have key:∀ (ys:List Int) (st:Best),okSt st->okSt (ys.foldl (fun st y=>if billOK b ls d (sdA b l.length) y then fromP b ls m (billD b ls d (sdA b l.length) y) (l ++ [y]) st else st) st):=by
    intro ys
    induction ys with
    | nil=>intro st h; exact h
    | cons y ys ih2 =>
     intro st h
     rw [List.foldl_cons]
     refine ih2 _ ?_
     split
     ·exact ih (k + 1) _ _ _ (bill_dk hs hl hd _ _) (by omega) h
     ·exact h
   exact key _ _ ho
theorem fromTo_ok (hs:SoundB b) (hl:GoodLn b ls) {m k:Nat} (hd:okDk k d) (hk:k + m < 10) (ho:okSt st):∀ n,n<=b.ctrs.length + 1->okSt (fromTo b ls m d l st n):=by
 intro n
 induction n with
 | zero=>intro _; exact ho
 | succ n ih =>
  intro h
  rw [fromTo_succ (by omega)]
  unfold stepB
  split
  ·exact from_ok hs hl m (k + 1) _ _ _ (bill_dk hs hl hd _ _) (by omega) (ih (by omega))
  ·exact ih (by omega)
theorem pOK_nil (hs:SoundB b):pOK b ls []:=⟨fun i hi=>absurd hi (by simp),fun c hc=>by
 have:=(hs.ctr c hc).2.2.1
 show 0<=_
 omega⟩
theorem pOK_take (hl:GoodLn b ls) {l:List Int} (h:pOK b ls l):∀ j n,n + j=l.length->pOK b ls (l.take n):=by
 intro j
 induction j with
 | zero=>intro n hn; rw [List.take_of_length_le (by omega)]; exact h
 | succ j ih =>
  intro n hn
  have:=ih (n + 1) (by omega)
  rw [take_succ l 0 (by omega)] at this
  exact ((ok_snoc hl _ _).1 this).1
theorem pOK_step (hl:GoodLn b ls) {l:List Int} {n:Nat} (hn:n < l.length) (h:pOK b ls (l.take n)):(pOK b ls (l.take (n + 1)) ↔ billOK b ls (deskOf b ls (l.take n)) (sdA b n) (l.getD n 0)=true):=by
 rw [take_succ l 0 hn,ok_snoc hl,List.length_take,Nat.min_eq_left (by omega)]
 exact ⟨fun h=>h.2,fun h2=>⟨h,h2⟩⟩
theorem desk_step {l:List Int} {n:Nat} (hn:n < l.length) (h:pOK b ls (l.take (n + 1))):billD b ls (deskOf b ls (l.take n)) (sdA b n) (l.getD n 0)=deskOf b ls (l.take (n + 1)):=by
 have hlen:(l.take n).length=n:=by rw [List.length_take]; omega
 have h1:=h.1 n (by rw [List.length_take]; omega)
 rw [take_succ l 0 hn] at h1 ⊢
 have h2:((l.take n) ++ [l.getD n 0]).getD n 0=l.getD n 0:=by
  have:=snoc_last (l.take n) (l.getD n 0)
  rwa [hlen] at this
 rw [h2] at h1
 have:=desk_snoc (b:=b) (ls:=ls) (l.take n) (l.getD n 0) (by rw [hlen]; exact h1)
 rw [hlen] at this
 exact this.symm
theorem are_goodB {b:Book} {ls:List Int} (h:areLnB b ls=true):GoodLn b ls:=are_good h
end Go.Sh
namespace Go.Ab
open Go Go.RowKit Go.Proofs Go.Sh Go.En
theorem giv_ok {b:Book} {ls:List Int}:(!decide (givenE b ls true=0)) = !(okBook b && areLnB b ls):=by
 unfold givenE openE; cases okBook b <;> cases areLnB b ls <;> rfl
theorem giv_eq {b:Book} {ls:List Int} (h:(okBook b && areLnB b ls)=true):givenE b ls true=0:=by
 unfold givenE openE; rw [Bool.and_eq_true] at h; rw [h.1,h.2]; rfl
abbrev q37 (b:Book) (ls:List Int) (l:List Int) (P:Prop):Prop:=smallB b/\ls.length<=60000/\l.length<=60000->P
abbrev q38 (b:Book) (ls:List Int) (l:List Int) (P:Prop):Prop:=q37 b ls l ((!decide (givenE b ls true=0))=false->P)
abbrev q39 (b:Book) (ls:List Int) (l:List Int) (P:Prop):Prop:=q38 b ls l ((!decide ((↑(l.length):Int)=(↑((stds b).length):Int)))=false->P)
abbrev q3a (b:Book) (ls:List Int) (l:List Int) (x4:Nat) (P:Prop):Prop:=x4<=l.length/\pOK b ls (List.take x4 l)/\okDk x4 (deskOf b ls (List.take x4 l))->P
abbrev q3b (b:Book) (ls:List Int) (l:List Int) (x4:Nat) (P:Prop):Prop:=q3a b ls l x4 (decide ((x4:Int) < (↑(l.length):Int))=true->P)
abbrev q3c (b:Book) (ls:List Int) (l:List Int) (x4:Nat) (P:Prop):Prop:=q3b b ls l x4 ((!billOK b ls (deskOf b ls (List.take x4 l)) (sdA b x4) (l.getD x4 0))=false->P)
theorem w28 (b:Book) (ls:List Int) (l:List Int)
 (o0:q37 b ls l (ls.length<=60000))
 (o1:q37 b ls l ((!decide (givenE b ls true=0))=true->0=costN b ls l))
 (o2:q37 b ls l ((!decide (givenE b ls true=0))=true->givenE b ls true=costE b ls l))
 (o3:q38 b ls l ((okBook b && (true && areLnB b ls))=true))
 (o4:q38 b ls l (SoundB b))
 (o5:q38 b ls l ((okBook b && (true && areLnB b ls))=true))
 (o6:q38 b ls l ((okBook b && (true && areLnB b ls))=true))
 (o7:q38 b ls l ((!decide ((↑(l.length):Int)=(↑((stds b).length):Int)))=true->0=costN b ls l))
 (o8:q38 b ls l ((!decide ((↑(l.length):Int)=(↑((stds b).length):Int)))=true->3=costE b ls l))
 (o9:q39 b ls l (0=(↑0:Int)))
 (o10:q39 b ls l (∀ (i7:Nat),i7 < 3 -> [iv ((desk0 b).room i7)] = [iv ((deskOf b ls (List.take 0 l)).room i7)]))
 (o11:q39 b ls l (∀ (i9:Nat),i9 < 3 -> [iv ((desk0 b).used i9)] = [iv ((deskOf b ls (List.take 0 l)).used i9)]))
 (o12:q39 b ls l ((desk0 b).cost=(deskOf b ls (List.take 0 l)).cost))
 (o13:q39 b ls l (0<=l.length/\pOK b ls (List.take 0 l)/\okDk 0 (deskOf b ls (List.take 0 l))))
 (o14:q39 b ls l (∀ (x4:Nat),q3b b ls l x4 (0<=(x4:Int))))
 (o15:q39 b ls l (∀ (x4:Nat),q3b b ls l x4 ((x4:Int) < (↑(l.length):Int))))
 (o16:q39 b ls l (∀ (x4:Nat),q3b b ls l x4 (SoundB b)))
 (o17:q39 b ls l (∀ (x4:Nat),q3b b ls l x4 (GoodLn b ls)))
 (o18:q39 b ls l (∀ (x4:Nat),q3b b ls l x4 (x4 < (stds b).length)))
 (o19:q39 b ls l (∀ (x4:Nat),q3b b ls l x4 (okDk x4 (deskOf b ls (List.take x4 l)))))
 (o20:q39 b ls l (∀ (x4:Nat),q3b b ls l x4 (x4<=10)))
 (o21:q39 b ls l (∀ (x4:Nat),q3b b ls l x4 ((!billOK b ls (deskOf b ls (List.take x4 l)) (sdA b x4) (l.getD x4 0))=true->0=costN b ls l)))
 (o22:q39 b ls l (∀ (x4:Nat),q3b b ls l x4 ((!billOK b ls (deskOf b ls (List.take x4 l)) (sdA b x4) (l.getD x4 0))=true->3=costE b ls l)))
 (o23:q39 b ls l (∀ (x4:Nat),q3c b ls l x4 (inI ((x4:Int) + 1))))
 (o24:q39 b ls l (∀ (x4:Nat),q3c b ls l x4 ((x4:Int) + 1=(↑(x4 + 1):Int))))
 (o25:q39 b ls l (∀ (x4:Nat),q3c b ls l x4 (∀ (i16:Nat),i16 < 3 -> [iv ((billD b ls (deskOf b ls (List.take x4 l)) (sdA b x4) (l.getD x4 0)).room i16)] = [iv ((deskOf b ls (List.take (x4 + 1) l)).room i16)])))
 (o26:q39 b ls l (∀ (x4:Nat),q3c b ls l x4 (∀ (i18:Nat),i18 < 3 -> [iv ((billD b ls (deskOf b ls (List.take x4 l)) (sdA b x4) (l.getD x4 0)).used i18)] = [iv ((deskOf b ls (List.take (x4 + 1) l)).used i18)])))
 (o27:q39 b ls l (∀ (x4:Nat),q3c b ls l x4 ((billD b ls (deskOf b ls (List.take x4 l)) (sdA b x4) (l.getD x4 0)).cost=(deskOf b ls (List.take (x4 + 1) l)).cost)))
 (o28:q39 b ls l (∀ (x4:Nat),q3c b ls l x4 (x4 + 1<=l.length/\pOK b ls (List.take (x4 + 1) l)/\okDk (x4 + 1) (deskOf b ls (List.take (x4 + 1) l)))))
 (o29:q39 b ls l (∀ (x4:Nat),q3c b ls l x4 (l.length - (x4 + 1) < l.length - x4)))
 (o30:q39 b ls l (∀ (x4:Nat),q3a b ls l x4 (decide ((x4:Int) < (↑(l.length):Int))=false->(deskOf b ls (List.take x4 l)).cost=costN b ls l)))
 (o31:q39 b ls l (∀ (x4:Nat),q3a b ls l x4 (decide ((x4:Int) < (↑(l.length):Int))=false->0=costE b ls l))) :
  Triple Tryz.prog 28 (s28 b ls l):=by
 refine triple_of Tryz.func28 rfl Tryz.call28 T0_ok _ rfl rfl rfl rfl (Nat.le_of_ble_eq_true (by kernel_rfl)) (fun _ _ _ _ h=>h) ?_
 intro hpre C hC _ hE
 obtain ⟨P,w0,E0,av,hA,ro,df⟩:=C
 obtain ⟨rfl,rfl,rfl⟩:=hC
 refine swp_seq ?_
 refine zR [1,2,3] [0] (Ak 3 tv) ?_
 refine swp_seq ?_
 refine zC ([(2,CallSpec.eq (s31 b ls true) [true,true,true])]) [1,2,8,9] [] (Ak 2 (An (An (An (zr (AV.agg (cBk b))) (An (zr (aInts ls)) (An (zr (bv true)) tv))) (An (t31 (b) (ls) (true)) (An (An hpre.1 (o0 hpre)) (Ak 1 (fun (i0:Env)=>tv))))) (Ak 5 tv))) ?_
 refine swp_seq ?_
 refine swp_seq ?_
 refine zR [1,2,8,9,20] [] (Ak 2 tv) ?_
 refine zI (!decide (givenE b ls true=0)) (fun y1 => ?_) (fun y1 => ?_)
 ·refine swp_seq ?_
  refine zR [6,7] [] (Ak 3 tv) ?_
  refine swp_ret ?_
  exact zT [] (An (Ak 2 tv) (An (An (An (ci (o1 hpre y1)) (zr nilN)) (An (An (ci (o2 hpre y1)) (zr nilN)) tv)) (An (zr true) (An (zr true) (zr true)))))
 ·refine swp_skip ?_
  refine swp_seq ?_
  refine zC ([(2,CallSpec.eq (c28s b ls l) [false,true])]) [2,8,10] [128] (Ak 2 (An (An (An (An (o3 hpre y1) (zr (cWk b))) (An (zr (aInts ls)) tv)) (An (t57 (b) (ls)) (An (o4 hpre y1) (Ak 1 (fun (i2:Env)=>tv))))) (Ak 2 tv))) ?_
  refine swp_seq ?_
  refine swp_seq ?_
  refine zR [2,10,32] [128] (Ak 3 (An (o5 hpre y1) (An (o6 hpre y1) (Ak 3 tv)))) ?_
  refine zI (!decide ((↑(l.length):Int)=(↑((stds b).length):Int))) (fun y3 => ?_) (fun y3 => ?_)
  ·refine swp_seq ?_
   refine zR [6,7] [] (Ak 2 tv) ?_
   refine swp_ret ?_
   exact zT [] (An (Ak 2 tv) (An (An (An (ci (o7 hpre y1 y3)) (zr nilN)) (An (An (ci (o8 hpre y1 y3)) (zr nilN)) tv)) (An (zr true) (An (zr true) (zr true)))))
  ·refine swp_skip ?_
   refine swp_seq ?_
   refine swp_seq ?_
   refine zR [10,33,34,35] [128] (Ak 3 tv) ?_
   refine swp_block ?_
   refine zL (Hint.ann (h28 b ls l) [(10,AV.ptr 128 []),(33,aInts l),(34,iv (↑(l.length):Int))] [] 10232) (zE hE [] [(128,.same 128)] [33,34] [] (An (An (An (zr (some (Src.same 128))) (zr nilP)) (An (An (zr (aInts l)) (zr true)) (An (An (zr (iv (↑(l.length):Int))) (zr true)) (An (An (ci (o9 hpre y1 y3)) (zr nilN)) tv)))) (An (An (An (zr 90) (An (An (An (zr (AV.rp (cWk b))) (zr nilN)) (An (An (zr 1) (An (zr ls.length) (fun (i5:Nat)=>(fun (y6:i5 < ls.length)=>(zr ([iv (ls.getD i5 0)])))))) (An (An (zr 1) (An (zr 3) (fun (i7:Nat)=>(fun (y8:i7 < 3)=>(o10 hpre y1 y3 i7 y8))))) (An (An (zr 1) (An (zr 3) (fun (i9:Nat)=>(fun (y10:i9 < 3)=>(o11 hpre y1 y3 i9 y10))))) (An (An (ci (o12 hpre y1 y3)) (zr nilN)) tv))))) (zr true))) tv) (An (zr true) (zr true))))) (o13 hpre y1 y3) (fun (x4:Nat) hx4 => ?_)
   refine swp_seq ?_
   refine zR [10,33,34,35,36] [128] (Ak 1 tv) ?_
   refine swp_seq ?_
   refine zI (decide ((x4:Int) < (↑(l.length):Int))) (fun y11 => ?_) (fun y11 => ?_)
   ·refine swp_skip ?_
    refine swp_seq ?_
    refine swp_block ?_
    refine swp_seq ?_
    refine zR [10,33,34,35,11,12] [128] (Ak 1 (An (An (o14 hpre y1 y3 x4 hx4 y11) (o15 hpre y1 y3 x4 hx4 y11)) (Ak 3 tv))) ?_
    refine swp_seq ?_
    refine zC ([(2,CallSpec.eq (c28 b ls l x4) [true,true,true])]) [10,33,34,35,43] [128] (Ak 2 (An (An (An (zr (AV.ptr 128 [])) (An (zr (iv (x4:Int))) (An (zr (iv (l.getD x4 0))) tv))) (An (t58 (128) (b) (ls) (deskOf b ls (List.take x4 l)) (x4) (l.getD x4 0) (x4)) (An (An (o16 hpre y1 y3 x4 hx4 y11) (An (o17 hpre y1 y3 x4 hx4 y11) (An (o18 hpre y1 y3 x4 hx4 y11) (An (o19 hpre y1 y3 x4 hx4 y11) (o20 hpre y1 y3 x4 hx4 y11))))) (An (An (zr (some (OB.cells 90 (cDk b ls (deskOf b ls (List.take x4 l)))))) tv) (fun (i12:Env)=>tv))))) (Ak 1 tv))) ?_
    refine zI (!billOK b ls (deskOf b ls (List.take x4 l)) (sdA b x4) (l.getD x4 0)) (fun y13 => ?_) (fun y13 => ?_)
    ·refine swp_seq ?_
     refine zR [6,7] [] (Ak 2 tv) ?_
     refine swp_ret ?_
     exact zT [] (An (Ak 2 tv) (An (An (An (ci (o21 hpre y1 y3 x4 hx4 y11 y13)) (zr nilN)) (An (An (ci (o22 hpre y1 y3 x4 hx4 y11 y13)) (zr nilN)) tv)) (An (zr true) (An (zr true) (zr true)))))
    ·refine swp_skip ?_
     refine zR [10,33,34,35] [128] (An (o23 hpre y1 y3 x4 hx4 y11 y13) (Ak 1 tv)) ?_
     exact zn (zE hE [] [(128,.same 128)] [33,34] [] (An (An (An (zr (some (Src.same 128))) (zr nilP)) (An (An (zr (aInts l)) (zr true)) (An (An (zr (iv (↑(l.length):Int))) (zr true)) (An (An (ci (o24 hpre y1 y3 x4 hx4 y11 y13)) (zr nilN)) tv)))) (An (An (An (zr 90) (An (An (An (zr (AV.rp (cWk b))) (zr nilN)) (An (An (zr 1) (An (zr ls.length) (fun (i14:Nat)=>(fun (y15:i14 < ls.length)=>(zr ([iv (ls.getD i14 0)])))))) (An (An (zr 1) (An (zr 3) (fun (i16:Nat)=>(fun (y17:i16 < 3)=>(o25 hpre y1 y3 x4 hx4 y11 y13 i16 y17))))) (An (An (zr 1) (An (zr 3) (fun (i18:Nat)=>(fun (y19:i18 < 3)=>(o26 hpre y1 y3 x4 hx4 y11 y13 i18 y19))))) (An (An (ci (o27 hpre y1 y3 x4 hx4 y11 y13)) (zr nilN)) tv))))) (zr true))) tv) (An (zr true) (zr true))))) (o28 hpre y1 y3 x4 hx4 y11 y13) (o29 hpre y1 y3 x4 hx4 y11 y13)
   ·refine swp_exit ?_
    refine swp_seq ?_
    refine zR [6,7] [] (Ak 4 tv) ?_
    refine swp_ret ?_
    exact zT [] (An (Ak 2 tv) (An (An (An (ci (o30 hpre y1 y3 x4 hx4 y11)) (zr nilN)) (An (An (ci (o31 hpre y1 y3 x4 hx4 y11)) (zr nilN)) tv)) (An (zr true) (An (zr true) (zr true)))))
theorem costN_bad {b:Book} {ls l:List Int} (h:(okBook b && areLnB b ls && isBillB b ls l)=false):costN b ls l=0:=by unfold costN; rw [h]; rfl
theorem bill_no {b:Book} {ls l:List Int} (h:¬ (l.length=(stds b).length/\pOK b ls l)):isBillB b ls l=false:=by
 cases e:isBillB b ls l with
 | false=>rfl
 | true=>exact absurd (bill_ok.1 e) h
theorem t28 (b:Book) (ls l:List Int):Triple Tryz.prog 28 (s28 b ls l):=by
 apply w28
 all_goals (try delta q37 q38 q39 q3a q3b q3c)
 case o0=>intro hp; exact hp.2.1
 all_goals (intro hp h; rw [giv_ok] at h)
 case o1=>simp only [Bool.not_eq_true'] at h; rw [costN_bad (by rw [h]; rfl)]
 case o2 =>
  simp only [Bool.not_eq_true'] at h
  unfold costE givenE openE
  revert h
  cases okBook b <;> cases areLnB b ls <;> simp
 all_goals (simp only [Bool.not_eq_false'] at h; have h1:=giv_eq h; have hh:=h; rw [Bool.and_eq_true] at hh; have hs:=ok_soundB hh.1; have hg:=are_goodB hh.2; have hst:=stds_small hs)
 case o3 | o5 | o6=>all_goals exact h
 case o4=>exact hs
 all_goals (intro hl; simp only [Bool.not_eq_true',Bool.not_eq_false',decide_eq_true_eq,decide_eq_false_iff_not] at hl)
 case o7=>rw [costN_bad (by rw [bill_no (fun e=>hl (by omega)),Bool.and_false])]
 case o8=>unfold costE; rw [hh.1,hh.2,bill_no (fun e=>hl (by omega))]; rfl
 case o9=>rfl
 case o10=>intro i _; rw [List.take_zero,desk_nil]
 case o11=>intro i _; rw [List.take_zero,desk_nil]
 case o12=>rw [List.take_zero,desk_nil]
 case o13=>rw [List.take_zero,desk_nil]; exact ⟨Nat.zero_le _,pOK_nil hs,desk0_dk hs⟩
 all_goals (rintro x ⟨x1,x2,x3⟩ hx; simp only [decide_eq_true_eq,decide_eq_false_iff_not] at hx)
 case o16=>exact hs
 case o17=>exact hg
 case o19=>exact x3
 case o30 =>
  have e:l.take x=l:=List.take_of_length_le (by omega)
  rw [e] at x2 ⊢
  have hb:isBillB b ls l=true:=bill_ok.2 ⟨by omega,x2⟩
  unfold costN costB
  rw [h,hb]
  show sglAt b ls l l.length + penAt b l b.ctrs.length=_
  rw [show l.length=(stds b).length by omega]; rfl
 case o31 =>
  have e:l.take x=l:=List.take_of_length_le (by omega)
  rw [e] at x2
  have hb:isBillB b ls l=true:=bill_ok.2 ⟨by omega,x2⟩
  unfold costE; rw [hh.1,hh.2,hb]; rfl
 all_goals (try (first | omega | rfl))
 all_goals (intro hb; have hstep:=pOK_step hg (l:=l) (n:=x) (by omega) x2; simp only [Bool.not_eq_true',Bool.not_eq_false'] at hb)
 case o21 | o22=>all_goals (
  have hno:isBillB b ls l=false:=bill_no fun e=>by
   have:=pOK_take hg e.2 (l.length - (x + 1)) (x + 1) (by omega)
   rw [hstep.1 this] at hb; cases hb
  first
  | (rw [costN_bad (by rw [hno,Bool.and_false])])
  | (unfold costE; rw [hh.1,hh.2,hno]; rfl))
 all_goals (have hok:=hstep.2 hb; have hd:=desk_step (b:=b) (ls:=ls) (l:=l) (n:=x) (by omega) hok)
 case o25=>intro i _; rw [hd]
 case o26=>intro i _; rw [hd]
 case o27=>rw [hd]
 case o28=>exact ⟨by omega,hok,by rw [← hd]; exact bill_dk hs hg x3 _ _⟩
 all_goals (first | omega | rfl | (simp only [inI]; omega))
abbrev q3d (b:Book) (ls:List Int) (d:Desk) (ws:List Int) (st:Best) (P:Prop):Prop:=SoundB b/\GoodLn b ls/\ws.length<=(stds b).length/\okDk ws.length d/\okSt st->P
abbrev q3e (b:Book) (ls:List Int) (d:Desk) (ws:List Int) (st:Best) (P:Prop):Prop:=q3d b ls d ws st ((bif decide (0<=st.2) then decide (st.2<=d.cost) else false)=false->P)
abbrev q3f (b:Book) (ls:List Int) (d:Desk) (ws:List Int) (st:Best) (P:Prop):Prop:=q3e b ls d ws st (decide ((↑(ws.length):Int)=(↑((stds b).length):Int))=false->P)
abbrev q3g (b:Book) (x17:Nat) (P:Prop):Prop:=x17<=b.ctrs.length + 1->P
abbrev q3h (b:Book) (x17:Nat) (P:Prop):Prop:=q3g b x17 (decide ((x17:Int) - 1 < (↑(b.ctrs.length):Int))=true->P)
abbrev q3i (b:Book) (ls:List Int) (d:Desk) (ws:List Int) (x17:Nat) (P:Prop):Prop:=q3h b x17 (billOK b ls d (sdA b ws.length) ((x17:Int) - 1)=true->P)
abbrev q3j (b:Book) (ls:List Int) (d:Desk) (ws:List Int) (x17:Nat) (P:Prop):Prop:=q3h b x17 (billOK b ls d (sdA b ws.length) ((x17:Int) - 1)=false->P)
abbrev q3k (b:Book) (x17:Nat) (P:Prop):Prop:=q3g b x17 (decide ((x17:Int) - 1 < (↑(b.ctrs.length):Int))=false->P)
theorem wio63 (b:Book) (ls:List Int) (d:Desk) (ws:List Int) (st:Best)
 (o0:q3d b ls d ws st ((bif decide (0<=st.2) then decide (st.2<=d.cost) else false)=true->st.2=(fromP b ls (leftB b ws) d ws st).2))
 (o1:q3d b ls d ws st ((bif decide (0<=st.2) then decide (st.2<=d.cost) else false)=true->st.1.length=(fromP b ls (leftB b ws) d ws st).1.length))
 (o2:q3d b ls d ws st ((bif decide (0<=st.2) then decide (st.2<=d.cost) else false)=true -> ∀ (i10:Nat),i10 < st.1.length -> [iv (st.1.getD i10 0)] = [iv ((fromP b ls (leftB b ws) d ws st).1.getD i10 0)]))
 (o3:q3e b ls d ws st (decide ((↑(ws.length):Int)=(↑((stds b).length):Int))=true->d.cost=(fromP b ls (leftB b ws) d ws st).2))
 (o4:q3e b ls d ws st (decide ((↑(ws.length):Int)=(↑((stds b).length):Int))=true->ws.length=(fromP b ls (leftB b ws) d ws st).1.length))
 (o5:q3e b ls d ws st (decide ((↑(ws.length):Int)=(↑((stds b).length):Int))=true -> ∀ (i13:Nat),i13 < ws.length -> [iv (ws.getD i13 0)] = [iv ((fromP b ls (leftB b ws) d ws st).1.getD i13 0)]))
 (o6:q3f b ls d ws st (-1=(↑0:Int) - 1))
 (o7:q3f b ls d ws st (st.2=(fromTo b ls (leftB b ws - 1) d ws st 0).2))
 (o8:q3f b ls d ws st (st.1.length=(fromTo b ls (leftB b ws - 1) d ws st 0).1.length))
 (o9:q3f b ls d ws st (∀ (i18:Nat),i18 < st.1.length -> [iv (st.1.getD i18 0)] = [iv ((fromTo b ls (leftB b ws - 1) d ws st 0).1.getD i18 0)]))
 (o10:q3f b ls d ws st (0<=b.ctrs.length + 1))
 (o11:q3f b ls d ws st (∀ (x17:Nat),q3h b x17 (GoodLn b ls)))
 (o12:q3f b ls d ws st (∀ (x17:Nat),q3h b x17 (ws.length < (stds b).length)))
 (o13:q3f b ls d ws st (∀ (x17:Nat),q3h b x17 (okDk ws.length d)))
 (o14:q3f b ls d ws st (∀ (x17:Nat),q3h b x17 (ws.length<=10)))
 (o15:q3f b ls d ws st (∀ (x17:Nat),q3i b ls d ws x17 (ws.length + 1<=65536)))
 (o16:q3f b ls d ws st (∀ (x17:Nat),q3i b ls d ws x17 (Triple Tryz.prog 63 (c63r b ls d ws st x17 10358))))
 (o17:q3f b ls d ws st (∀ (x17:Nat),q3i b ls d ws x17 (GoodLn b ls)))
 (o18:q3f b ls d ws st (∀ (x17:Nat),q3i b ls d ws x17 ((ws ++ [(x17:Int) - 1]).length<=(stds b).length)))
 (o19:q3f b ls d ws st (∀ (x17:Nat),q3i b ls d ws x17 (okDk (ws ++ [(x17:Int) - 1]).length (billD b ls d (sdA b ws.length) ((x17:Int) - 1)))))
 (o20:q3f b ls d ws st (∀ (x17:Nat),q3i b ls d ws x17 (okSt (fromTo b ls (leftB b ws - 1) d ws st x17))))
 (o21:q3f b ls d ws st (∀ (x17:Nat),q3i b ls d ws x17 (some (OB.cells 3 [iv (fromTo b ls (leftB b ws - 1) d ws st x17).2])=some (OB.cells 3 (List.map (fun (x:AV)=>match x with | AV.clo f cs=>AV.clo f (List.map (fun (x:AV)=>match x with | AV.vec b=>AV.vec (Decidable.rec (fun (h:¬0=b)=>Decidable.rec (fun (h:¬1=b)=>Decidable.rec (fun (h:¬2=b)=>Decidable.rec (fun (h:¬3=b)=>Decidable.rec (fun (h:¬4=b)=>Decidable.rec (fun (h:¬7=b)=>b) (fun (h:7=b)=>10358) (instDecidableEqNat 7 b)) (fun (h:4=b)=>6001) (instDecidableEqNat 4 b)) (fun (h:3=b)=>10358 - 8) (instDecidableEqNat 3 b)) (fun (h:2=b)=>2) (instDecidableEqNat 2 b)) (fun (h:1=b)=>1) (instDecidableEqNat 1 b)) (fun (h:0=b)=>0) (instDecidableEqNat 0 b)) | AV.ptr b p=>AV.ptr (Decidable.rec (fun (h:¬0=b)=>Decidable.rec (fun (h:¬1=b)=>Decidable.rec (fun (h:¬2=b)=>Decidable.rec (fun (h:¬3=b)=>Decidable.rec (fun (h:¬4=b)=>Decidable.rec (fun (h:¬7=b)=>b) (fun (h:7=b)=>10358) (instDecidableEqNat 7 b)) (fun (h:4=b)=>6001) (instDecidableEqNat 4 b)) (fun (h:3=b)=>10358 - 8) (instDecidableEqNat 3 b)) (fun (h:2=b)=>2) (instDecidableEqNat 2 b)) (fun (h:1=b)=>1) (instDecidableEqNat 1 b)) (fun (h:0=b)=>0) (instDecidableEqNat 0 b)) p | v=>v) cs) | v=>match v with | AV.vec b=>AV.vec (Decidable.rec (fun (h:¬0=b)=>Decidable.rec (fun (h:¬1=b)=>Decidable.rec (fun (h:¬2=b)=>Decidable.rec (fun (h:¬3=b)=>Decidable.rec (fun (h:¬4=b)=>Decidable.rec (fun (h:¬7=b)=>b) (fun (h:7=b)=>10358) (instDecidableEqNat 7 b)) (fun (h:4=b)=>6001) (instDecidableEqNat 4 b)) (fun (h:3=b)=>10358 - 8) (instDecidableEqNat 3 b)) (fun (h:2=b)=>2) (instDecidableEqNat 2 b)) (fun (h:1=b)=>1) (instDecidableEqNat 1 b)) (fun (h:0=b)=>0) (instDecidableEqNat 0 b)) | AV.ptr b p=>AV.ptr (Decidable.rec (fun (h:¬0=b)=>Decidable.rec (fun (h:¬1=b)=>Decidable.rec (fun (h:¬2=b)=>Decidable.rec (fun (h:¬3=b)=>Decidable.rec (fun (h:¬4=b)=>Decidable.rec (fun (h:¬7=b)=>b) (fun (h:7=b)=>10358) (instDecidableEqNat 7 b)) (fun (h:4=b)=>6001) (instDecidableEqNat 4 b)) (fun (h:3=b)=>10358 - 8) (instDecidableEqNat 3 b)) (fun (h:2=b)=>2) (instDecidableEqNat 2 b)) (fun (h:1=b)=>1) (instDecidableEqNat 1 b)) (fun (h:0=b)=>0) (instDecidableEqNat 0 b)) p | v=>v) [iv (fromTo b ls (leftB b ws - 1) d ws st x17).2])))))
 (o22:q3f b ls d ws st (∀ (x17:Nat),q3i b ls d ws x17 (some (OB.cells 27 [AV.vec 6001])=some (OB.cells 27 (List.map (fun (x:AV)=>match x with | AV.clo f cs=>AV.clo f (List.map (fun (x:AV)=>match x with | AV.vec b=>AV.vec (Decidable.rec (fun (h:¬0=b)=>Decidable.rec (fun (h:¬1=b)=>Decidable.rec (fun (h:¬2=b)=>Decidable.rec (fun (h:¬3=b)=>Decidable.rec (fun (h:¬4=b)=>Decidable.rec (fun (h:¬7=b)=>b) (fun (h:7=b)=>10358) (instDecidableEqNat 7 b)) (fun (h:4=b)=>6001) (instDecidableEqNat 4 b)) (fun (h:3=b)=>10358 - 8) (instDecidableEqNat 3 b)) (fun (h:2=b)=>2) (instDecidableEqNat 2 b)) (fun (h:1=b)=>1) (instDecidableEqNat 1 b)) (fun (h:0=b)=>0) (instDecidableEqNat 0 b)) | AV.ptr b p=>AV.ptr (Decidable.rec (fun (h:¬0=b)=>Decidable.rec (fun (h:¬1=b)=>Decidable.rec (fun (h:¬2=b)=>Decidable.rec (fun (h:¬3=b)=>Decidable.rec (fun (h:¬4=b)=>Decidable.rec (fun (h:¬7=b)=>b) (fun (h:7=b)=>10358) (instDecidableEqNat 7 b)) (fun (h:4=b)=>6001) (instDecidableEqNat 4 b)) (fun (h:3=b)=>10358 - 8) (instDecidableEqNat 3 b)) (fun (h:2=b)=>2) (instDecidableEqNat 2 b)) (fun (h:1=b)=>1) (instDecidableEqNat 1 b)) (fun (h:0=b)=>0) (instDecidableEqNat 0 b)) p | v=>v) cs) | v=>match v with | AV.vec b=>AV.vec (Decidable.rec (fun (h:¬0=b)=>Decidable.rec (fun (h:¬1=b)=>Decidable.rec (fun (h:¬2=b)=>Decidable.rec (fun (h:¬3=b)=>Decidable.rec (fun (h:¬4=b)=>Decidable.rec (fun (h:¬7=b)=>b) (fun (h:7=b)=>10358) (instDecidableEqNat 7 b)) (fun (h:4=b)=>6001) (instDecidableEqNat 4 b)) (fun (h:3=b)=>10358 - 8) (instDecidableEqNat 3 b)) (fun (h:2=b)=>2) (instDecidableEqNat 2 b)) (fun (h:1=b)=>1) (instDecidableEqNat 1 b)) (fun (h:0=b)=>0) (instDecidableEqNat 0 b)) | AV.ptr b p=>AV.ptr (Decidable.rec (fun (h:¬0=b)=>Decidable.rec (fun (h:¬1=b)=>Decidable.rec (fun (h:¬2=b)=>Decidable.rec (fun (h:¬3=b)=>Decidable.rec (fun (h:¬4=b)=>Decidable.rec (fun (h:¬7=b)=>b) (fun (h:7=b)=>10358) (instDecidableEqNat 7 b)) (fun (h:4=b)=>6001) (instDecidableEqNat 4 b)) (fun (h:3=b)=>10358 - 8) (instDecidableEqNat 3 b)) (fun (h:2=b)=>2) (instDecidableEqNat 2 b)) (fun (h:1=b)=>1) (instDecidableEqNat 1 b)) (fun (h:0=b)=>0) (instDecidableEqNat 0 b)) p | v=>v) [AV.vec 4])))))
 (o23:q3f b ls d ws st (∀ (x17:Nat),q3i b ls d ws x17 (some (OB.cells 96 [AV.clo 63 [AV.ptr 0 [],AV.rp [AV.rp (cWk b)],AV.ptr 1 [],AV.ptr 2 []]])=some (OB.cells 96 (List.map (fun (x:AV)=>match x with | AV.clo f cs=>AV.clo f (List.map (fun (x:AV)=>match x with | AV.vec b=>AV.vec (Decidable.rec (fun (h:¬0=b)=>Decidable.rec (fun (h:¬1=b)=>Decidable.rec (fun (h:¬2=b)=>Decidable.rec (fun (h:¬3=b)=>Decidable.rec (fun (h:¬4=b)=>Decidable.rec (fun (h:¬7=b)=>b) (fun (h:7=b)=>10358) (instDecidableEqNat 7 b)) (fun (h:4=b)=>6001) (instDecidableEqNat 4 b)) (fun (h:3=b)=>10358 - 8) (instDecidableEqNat 3 b)) (fun (h:2=b)=>2) (instDecidableEqNat 2 b)) (fun (h:1=b)=>1) (instDecidableEqNat 1 b)) (fun (h:0=b)=>0) (instDecidableEqNat 0 b)) | AV.ptr b p=>AV.ptr (Decidable.rec (fun (h:¬0=b)=>Decidable.rec (fun (h:¬1=b)=>Decidable.rec (fun (h:¬2=b)=>Decidable.rec (fun (h:¬3=b)=>Decidable.rec (fun (h:¬4=b)=>Decidable.rec (fun (h:¬7=b)=>b) (fun (h:7=b)=>10358) (instDecidableEqNat 7 b)) (fun (h:4=b)=>6001) (instDecidableEqNat 4 b)) (fun (h:3=b)=>10358 - 8) (instDecidableEqNat 3 b)) (fun (h:2=b)=>2) (instDecidableEqNat 2 b)) (fun (h:1=b)=>1) (instDecidableEqNat 1 b)) (fun (h:0=b)=>0) (instDecidableEqNat 0 b)) p | v=>v) cs) | v=>match v with | AV.vec b=>AV.vec (Decidable.rec (fun (h:¬0=b)=>Decidable.rec (fun (h:¬1=b)=>Decidable.rec (fun (h:¬2=b)=>Decidable.rec (fun (h:¬3=b)=>Decidable.rec (fun (h:¬4=b)=>Decidable.rec (fun (h:¬7=b)=>b) (fun (h:7=b)=>10358) (instDecidableEqNat 7 b)) (fun (h:4=b)=>6001) (instDecidableEqNat 4 b)) (fun (h:3=b)=>10358 - 8) (instDecidableEqNat 3 b)) (fun (h:2=b)=>2) (instDecidableEqNat 2 b)) (fun (h:1=b)=>1) (instDecidableEqNat 1 b)) (fun (h:0=b)=>0) (instDecidableEqNat 0 b)) | AV.ptr b p=>AV.ptr (Decidable.rec (fun (h:¬0=b)=>Decidable.rec (fun (h:¬1=b)=>Decidable.rec (fun (h:¬2=b)=>Decidable.rec (fun (h:¬3=b)=>Decidable.rec (fun (h:¬4=b)=>Decidable.rec (fun (h:¬7=b)=>b) (fun (h:7=b)=>10358) (instDecidableEqNat 7 b)) (fun (h:4=b)=>6001) (instDecidableEqNat 4 b)) (fun (h:3=b)=>10358 - 8) (instDecidableEqNat 3 b)) (fun (h:2=b)=>2) (instDecidableEqNat 2 b)) (fun (h:1=b)=>1) (instDecidableEqNat 1 b)) (fun (h:0=b)=>0) (instDecidableEqNat 0 b)) p | v=>v) [AV.clo 63 [AV.ptr 0 [],AV.rp [vWk b],AV.ptr 1 [],AV.ptr 2 []]])))))
 (o24:q3f b ls d ws st (∀ (x17:Nat),q3i b ls d ws x17 (some (OB.vec 3 1 (ws.length + 1) (catF ws.length (fun (i:Nat)=>[iv (ws.getD i 0)]) fun (j:Nat)=>List.getD [[iv ((x17:Int) - 1)]] j [iv 0]))=some (OB.vec 3 1 (ws ++ [(x17:Int) - 1]).length fun (i:Nat)=>[iv ((ws ++ [(x17:Int) - 1]).getD i 0)]))))
 (o25:q3f b ls d ws st (∀ (x17:Nat),q3i b ls d ws x17 (inI ((x17:Int) - 1 + 1))))
 (o26:q3f b ls d ws st (∀ (x17:Nat),q3i b ls d ws x17 ((x17:Int) - 1 + 1=(↑(x17 + 1):Int) - 1)))
 (o27:q3f b ls d ws st (∀ (x17:Nat),q3i b ls d ws x17 ((fromP b ls (leftB b (ws ++ [(x17:Int) - 1])) (billD b ls d (sdA b ws.length) ((x17:Int) - 1)) (ws ++ [(x17:Int) - 1]) (fromTo b ls (leftB b ws - 1) d ws st x17)).2=(fromTo b ls (leftB b ws - 1) d ws st (x17 + 1)).2)))
 (o28:q3f b ls d ws st (∀ (x17:Nat),q3i b ls d ws x17 ((fromP b ls (leftB b (ws ++ [(x17:Int) - 1])) (billD b ls d (sdA b ws.length) ((x17:Int) - 1)) (ws ++ [(x17:Int) - 1]) (fromTo b ls (leftB b ws - 1) d ws st x17)).1.length=(fromTo b ls (leftB b ws - 1) d ws st (x17 + 1)).1.length)))
 (o29:q3f b ls d ws st (∀ (x17:Nat),q3i b ls d ws x17 (∀ (i24:Nat),i24 < (fromP b ls (leftB b (ws ++ [(x17:Int) - 1])) (billD b ls d (sdA b ws.length) ((x17:Int) - 1)) (ws ++ [(x17:Int) - 1]) (fromTo b ls (leftB b ws - 1) d ws st x17)).1.length -> [iv ((fromP b ls (leftB b (ws ++ [(x17:Int) - 1])) (billD b ls d (sdA b ws.length) ((x17:Int) - 1)) (ws ++ [(x17:Int) - 1]) (fromTo b ls (leftB b ws - 1) d ws st x17)).1.getD i24 0)] = [iv ((fromTo b ls (leftB b ws - 1) d ws st (x17 + 1)).1.getD i24 0)])))
 (o30:q3f b ls d ws st (∀ (x17:Nat),q3i b ls d ws x17 (x17 + 1<=b.ctrs.length + 1)))
 (o31:q3f b ls d ws st (∀ (x17:Nat),q3i b ls d ws x17 (b.ctrs.length + 1 - (x17 + 1) < b.ctrs.length + 1 - x17)))
 (o32:q3f b ls d ws st (∀ (x17:Nat),q3j b ls d ws x17 (inI ((x17:Int) - 1 + 1))))
 (o33:q3f b ls d ws st (∀ (x17:Nat),q3j b ls d ws x17 ((x17:Int) - 1 + 1=(↑(x17 + 1):Int) - 1)))
 (o34:q3f b ls d ws st (∀ (x17:Nat),q3j b ls d ws x17 ((fromTo b ls (leftB b ws - 1) d ws st x17).2=(fromTo b ls (leftB b ws - 1) d ws st (x17 + 1)).2)))
 (o35:q3f b ls d ws st (∀ (x17:Nat),q3j b ls d ws x17 ((fromTo b ls (leftB b ws - 1) d ws st x17).1.length=(fromTo b ls (leftB b ws - 1) d ws st (x17 + 1)).1.length)))
 (o36:q3f b ls d ws st (∀ (x17:Nat),q3j b ls d ws x17 (∀ (i26:Nat),i26 < (fromTo b ls (leftB b ws - 1) d ws st x17).1.length -> [iv ((fromTo b ls (leftB b ws - 1) d ws st x17).1.getD i26 0)] = [iv ((fromTo b ls (leftB b ws - 1) d ws st (x17 + 1)).1.getD i26 0)])))
 (o37:q3f b ls d ws st (∀ (x17:Nat),q3j b ls d ws x17 (x17 + 1<=b.ctrs.length + 1)))
 (o38:q3f b ls d ws st (∀ (x17:Nat),q3j b ls d ws x17 (b.ctrs.length + 1 - (x17 + 1) < b.ctrs.length + 1 - x17)))
 (o39:q3f b ls d ws st (∀ (x17:Nat),q3k b x17 ((fromTo b ls (leftB b ws - 1) d ws st x17).2=(fromP b ls (leftB b ws) d ws st).2)))
 (o40:q3f b ls d ws st (∀ (x17:Nat),q3k b x17 ((fromTo b ls (leftB b ws - 1) d ws st x17).1.length=(fromP b ls (leftB b ws) d ws st).1.length)))
 (o41:q3f b ls d ws st (∀ (x17:Nat),q3k b x17 (∀ (i28:Nat),i28 < (fromTo b ls (leftB b ws - 1) d ws st x17).1.length -> [iv ((fromTo b ls (leftB b ws - 1) d ws st x17).1.getD i28 0)] = [iv ((fromP b ls (leftB b ws) d ws st).1.getD i28 0)])))
  (l:List (Nat × Nat)) (hl:l.map (·.1) = [0,1,2,3,4,7]) (hnd:(l.map (·.2)).Nodup) :
  Triple Tryz.prog 63 (IoSpec.at (io63 b ls d ws st) l):=by
 refine triple_io Tryz.func63 rfl Tryz.call63 T0_ok (io63 b ls d ws st) 6 l (by rw [hl]; kernel_rfl) hnd (Nat.le_of_ble_eq_true (by kernel_rfl)) (fun _ _ _ _ h=>h) ?_
 intro hpre C hC _ hE
 obtain ⟨P,w0,E0,av,hA,ro,df⟩:=C
 obtain ⟨rfl,rfl,rfl⟩:=hC
 refine swp_seq ?_
 refine zR [1,2,3,4,5,6] [0,1,2,3,6,4] (Ak 1 tv) ?_
 refine swp_seq ?_
 refine swp_seq ?_
 refine zR [1,2,3,4,5,6,17] [0,1,2,3,6,4] (Ak 3 (An (fun (y0:decide (0<=st.2)=true)=>(An (Ak 1 tv) tv)) (An (fun (y1:decide (0<=st.2)=true)=>(An (An (fun (y2:decide (0<=st.2)=true)=>y1) tv) tv)) (An (fun (y3:decide (0<=st.2)=true)=>(An (Ak 1 tv) tv)) (An (fun (y4:decide (0<=st.2)=true)=>(An (An (fun (y5:decide (0<=st.2)=true)=>y4) (An (fun (y6:decide (0<=st.2)=true)=>y4) tv)) tv)) (An (An (fun (y7:decide (0<=st.2)=true)=>y7) (fun (y8:decide (0<=st.2)=false)=>tv)) tv)))))) ?_
 refine zI (bif decide (0<=st.2) then decide (st.2<=d.cost) else false) (fun y9 => ?_) (fun y9 => ?_)
 ·refine swp_ret ?_
  exact zO (ASt.mk [] [(0,OB.cells 3 [iv (fromP b ls (leftB b ws) d ws st).2]),(1,OB.cells 27 [AV.vec 7]),(2,OB.cells 96 [AV.clo 63 [AV.ptr 0 [],AV.rp [AV.rp (cWk b)],AV.ptr 1 [],AV.ptr 2 []]]),(7,OB.vec 3 1 (fromP b ls (leftB b ws) d ws st).1.length fun (i:Nat)=>[iv ((fromP b ls (leftB b ws) d ws st).1.getD i 0)])] 100) (zEn 6 hE [] [(0,.same 0),(1,.same 1),(7,.same 4),(2,.same 2)] [] [] (Ak 1 (An (An (An (zr 3) (An (An (An (ci (o0 hpre y9)) (zr nilN)) tv) (zr true))) (An (An (zr 27) (An (An (zr (some (Src.same 4))) tv) (zr true))) (An (An (zr 96) (An (An (An (zr 63) (An (An (zr (some (Src.same 0))) (zr nilP)) (An (An (zr (AV.rp [AV.rp (cWk b)])) (zr nilN)) (An (An (zr (some (Src.same 1))) (zr nilP)) (An (An (zr (some (Src.same 2))) (zr nilP)) tv))))) tv) (zr true))) (An (An (zr 3) (An (zr 1) (An (o1 hpre y9) (fun (i10:Nat)=>(fun (y11:i10 < st.1.length)=>(o2 hpre y9 i10 y11)))))) tv)))) (An (zr true) (zr true))))) (Ak 1 (An (zr (AV.tup [])) (An (zr (some (OB.cells 3 [iv (fromP b ls (leftB b ws) d ws st).2]))) (An (zr (some (OB.cells 27 [AV.vec 7]))) (An (zr (some (OB.cells 96 [AV.clo 63 [AV.ptr 0 [],AV.rp [AV.rp (cWk b)],AV.ptr 1 [],AV.ptr 2 []]]))) (An (zr (some (OB.vec 3 1 (fromP b ls (leftB b ws) d ws st).1.length fun (i:Nat)=>[iv ((fromP b ls (leftB b ws) d ws st).1.getD i 0)]))) tv))))))
 ·refine swp_skip ?_
  refine swp_seq ?_
  refine swp_seq ?_
  refine zR [1,2,3,4,5,6,25] [0,1,2,3,6,4] (Ak 8 tv) ?_
  refine zI (decide ((↑(ws.length):Int)=(↑((stds b).length):Int))) (fun y12 => ?_) (fun y12 => ?_)
  ·refine swp_seq ?_
   refine zR [] [0,1,2,3] (Ak 5 tv) ?_
   refine swp_ret ?_
   exact zO (ASt.mk [] [(0,OB.cells 3 [iv (fromP b ls (leftB b ws) d ws st).2]),(1,OB.cells 27 [AV.vec 7]),(2,OB.cells 96 [AV.clo 63 [AV.ptr 0 [],AV.rp [AV.rp (cWk b)],AV.ptr 1 [],AV.ptr 2 []]]),(7,OB.vec 3 1 (fromP b ls (leftB b ws) d ws st).1.length fun (i:Nat)=>[iv ((fromP b ls (leftB b ws) d ws st).1.getD i 0)])] 100) (zEn 6 hE [] [(0,.same 0),(1,.same 1),(7,.same 3),(2,.same 2)] [] [] (Ak 1 (An (An (An (zr 3) (An (An (An (ci (o3 hpre y9 y12)) (zr nilN)) tv) (zr true))) (An (An (zr 27) (An (An (zr (some (Src.same 3))) tv) (zr true))) (An (An (zr 96) (An (An (An (zr 63) (An (An (zr (some (Src.same 0))) (zr nilP)) (An (An (zr (AV.rp [AV.rp (cWk b)])) (zr nilN)) (An (An (zr (some (Src.same 1))) (zr nilP)) (An (An (zr (some (Src.same 2))) (zr nilP)) tv))))) tv) (zr true))) (An (An (zr 3) (An (zr 1) (An (o4 hpre y9 y12) (fun (i13:Nat)=>(fun (y14:i13 < ws.length)=>(o5 hpre y9 y12 i13 y14)))))) tv)))) (An (zr true) (zr true))))) (Ak 1 (An (zr (AV.tup [])) (An (zr (some (OB.cells 3 [iv (fromP b ls (leftB b ws) d ws st).2]))) (An (zr (some (OB.cells 27 [AV.vec 7]))) (An (zr (some (OB.cells 96 [AV.clo 63 [AV.ptr 0 [],AV.rp [AV.rp (cWk b)],AV.ptr 1 [],AV.ptr 2 []]]))) (An (zr (some (OB.vec 3 1 (fromP b ls (leftB b ws) d ws st).1.length fun (i:Nat)=>[iv ((fromP b ls (leftB b ws) d ws st).1.getD i 0)]))) tv))))))
  ·refine swp_skip ?_
   refine swp_seq ?_
   refine swp_ent (zEn (st2:=ASt.mk [(1,AV.sl 1 ws.length fun (i:Nat)=>[iv (ws.getD i 0)]),(2,AV.ptr 0 []),(3,AV.rp [AV.rp (cWk b)]),(4,AV.ptr 1 []),(5,AV.ptr 2 []),(6,AV.ptr 6 []),(25,bv (decide ((↑(ws.length):Int)=(↑((stds b).length):Int))))] [(0,OB.cells 3 [iv st.2]),(1,OB.cells 27 [AV.vec 4]),(2,OB.cells 96 [AV.clo 63 [AV.ptr 0 [],AV.rp [AV.rp (cWk b)],AV.ptr 1 [],AV.ptr 2 []]]),(6,OB.cells 90 (cDk b ls d)),(4,OB.vec 3 1 st.1.length fun (i:Nat)=>[iv (st.1.getD i 0)])] 142) 6 hE [3] [(0,.same 0),(1,.same 1),(4,.same 4),(2,.same 2),(6,.same 6)] [3,25] [0,6,4] (An (An (An (zr 1) (An (zr ws.length) (fun (i15:Nat)=>(fun (y16:i15 < ws.length)=>(zr ([iv (ws.getD i15 0)])))))) (An (An (zr (some (Src.same 0))) (zr nilP)) (An (An (zr (AV.rp [AV.rp (cWk b)])) (zr true)) (An (An (zr (some (Src.same 1))) (zr nilP)) (An (An (zr (some (Src.same 2))) (zr nilP)) (An (An (zr (some (Src.same 6))) (zr nilP)) (An (An (zr (bv (decide ((↑(ws.length):Int)=(↑((stds b).length):Int))))) (zr true)) tv))))))) (An (An (An (zr (OB.cells 3 [iv st.2])) (zr true)) (An (An (zr 27) (An (An (zr (some (Src.same 4))) tv) (zr true))) (An (An (zr 96) (An (An (An (zr 63) (An (An (zr (some (Src.same 0))) (zr nilP)) (An (An (zr (AV.rp [AV.rp (cWk b)])) (zr nilN)) (An (An (zr (some (Src.same 1))) (zr nilP)) (An (An (zr (some (Src.same 2))) (zr nilP)) tv))))) tv) (zr true))) (An (An (zr (OB.cells 90 (cDk b ls d))) (zr true)) (An (An (zr (OB.vec 3 1 st.1.length fun (i:Nat)=>[iv (st.1.getD i 0)])) (zr true)) tv))))) (An (zr true) (zr true))))) ?_
   refine zR [1,3,5,6,8] [0,1,2,6,4] (Ak 1 tv) ?_
   refine swp_block ?_
   refine zL (Hint.ann (h63 b ls d ws st) [(1,AV.sl 1 ws.length fun (i:Nat)=>[iv (ws.getD i 0)]),(3,AV.rp [AV.rp (cWk b)]),(5,AV.ptr 2 []),(6,AV.ptr 6 [])] [(2,OB.cells 96 [AV.clo 63 [AV.ptr 0 [],AV.rp [AV.rp (cWk b)],AV.ptr 1 [],AV.ptr 2 []]]),(6,OB.cells 90 (cDk b ls d))] 10150) (zEn 6 hE [] [(0,.same 0),(1,.same 1),(6001,.same 4),(2,.same 2),(6,.same 6)] [1,3] [6] (An (An (An (zr (AV.sl 1 ws.length fun (i:Nat)=>[iv (ws.getD i 0)])) (zr true)) (An (An (zr (AV.rp [AV.rp (cWk b)])) (zr true)) (An (An (zr (some (Src.same 2))) (zr nilP)) (An (An (zr (some (Src.same 6))) (zr nilP)) (An (An (ci (o6 hpre y9 y12)) (zr nilN)) tv))))) (An (An (An (zr 96) (An (An (An (zr 63) (An (An (zr (some (Src.same 0))) (zr nilP)) (An (An (zr (AV.rp [AV.rp (cWk b)])) (zr nilN)) (An (An (zr (some (Src.same 1))) (zr nilP)) (An (An (zr (some (Src.same 2))) (zr nilP)) tv))))) tv) (zr true))) (An (An (zr (OB.cells 90 (cDk b ls d))) (zr true)) (An (An (zr 3) (An (An (An (ci (o7 hpre y9 y12)) (zr nilN)) tv) (zr true))) (An (An (zr 27) (An (An (zr (some (Src.same 4))) tv) (zr true))) (An (An (zr 3) (An (zr 1) (An (o8 hpre y9 y12) (fun (i18:Nat)=>(fun (y19:i18 < st.1.length)=>(o9 hpre y9 y12 i18 y19)))))) tv))))) (An (zr true) (zr true))))) (o10 hpre y9 y12) (fun (x17:Nat) hx17 => ?_)
   refine swp_seq ?_
   refine swp_seq ?_
   refine zR [1,3,5,6,8,36] [0,1,2,6,6001] (Ak 8 tv) ?_
   refine zI (decide ((x17:Int) - 1 < (↑(b.ctrs.length):Int))) (fun y20 => ?_) (fun y20 => ?_)
   ·refine swp_skip ?_
    refine swp_seq ?_
    refine swp_block ?_
    refine swp_seq ?_
    refine zR [1,3,5,6,8,9] [0,1,2,6,10222,6001] (Ak 3 tv) ?_
    refine swp_seq ?_
    refine zC ([(3,CallSpec.eq (c63b b ls d ws st x17) [true,true,true])]) [1,3,5,6,8,9,43] [0,1,2,6,10222,6001] (Ak 3 (An (An (An (zr (AV.ptr 10222 [])) (An (zr (iv (↑(ws.length):Int))) (An (zr (iv ((x17:Int) - 1))) tv))) (An (t58 (10222) (b) (ls) (d) ws.length ((x17:Int) - 1) ws.length) (An (An hpre.1 (An (o11 hpre y9 y12 x17 hx17 y20) (An (o12 hpre y9 y12 x17 hx17 y20) (An (o13 hpre y9 y12 x17 hx17 y20) (o14 hpre y9 y12 x17 hx17 y20))))) (An (An (zr (some (OB.cells 90 (cDk b ls d)))) tv) (fun (i21:Env)=>tv))))) tv)) ?_
    refine zI (billOK b ls d (sdA b ws.length) ((x17:Int) - 1)) (fun y22 => ?_) (fun y22 => ?_)
    ·refine zC ([(11,CallSpec.eq (c63r b ls d ws st x17 10358) [true,true,true,true,true,true])]) [1,3,5,6,8] [0,1,2,6,10358] (Ak 7 (An (An (zr ((↑(ws.length):Int))) (zr ((↑(ws.length):Int)))) (Ak 2 (An (An (o15 hpre y9 y12 x17 hx17 y20 y22) (by decide:0 < 1)) (An (An (An (zr (AV.agg (cDk b ls (billD b ls d (sdA b ws.length) ((x17:Int) - 1))))) (An (zr (AV.vec 10350)) (An (zr (AV.ptr 0 [])) (An (zr (AV.rp [AV.rp (cWk b)])) (An (zr (AV.ptr 1 [])) (An (zr (AV.ptr 2 [])) tv)))))) (An (o16 hpre y9 y12 x17 hx17 y20 y22) (An (An hpre.1 (An (o17 hpre y9 y12 x17 hx17 y20 y22) (An (o18 hpre y9 y12 x17 hx17 y20 y22) (An (o19 hpre y9 y12 x17 hx17 y20 y22) (o20 hpre y9 y12 x17 hx17 y20 y22))))) (An (An (o21 hpre y9 y12 x17 hx17 y20 y22) (An (o22 hpre y9 y12 x17 hx17 y20 y22) (An (o23 hpre y9 y12 x17 hx17 y20 y22) (An (o24 hpre y9 y12 x17 hx17 y20 y22) (An (zr (some (OB.vec 3 1 (fromTo b ls (leftB b ws - 1) d ws st x17).1.length fun (i:Nat)=>[iv ((fromTo b ls (leftB b ws - 1) d ws st x17).1.getD i 0)]))) tv))))) (fun (i23:Env)=>tv))))) tv))))) ?_
     refine zR [1,3,5,6,8] [0,1,2,6,10358] (Ak 1 (An (o25 hpre y9 y12 x17 hx17 y20 y22) (Ak 1 tv))) ?_
     exact zn (zEn 6 hE [] [(0,.same 0),(1,.same 1),(6001,.same 10358),(2,.same 2),(6,.same 6)] [1,3] [6] (An (An (An (zr (AV.sl 1 ws.length fun (i:Nat)=>[iv (ws.getD i 0)])) (zr true)) (An (An (zr (AV.rp [AV.rp (cWk b)])) (zr true)) (An (An (zr (some (Src.same 2))) (zr nilP)) (An (An (zr (some (Src.same 6))) (zr nilP)) (An (An (ci (o26 hpre y9 y12 x17 hx17 y20 y22)) (zr nilN)) tv))))) (An (An (An (zr 96) (An (An (An (zr 63) (An (An (zr (some (Src.same 0))) (zr nilP)) (An (An (zr (AV.rp [AV.rp (cWk b)])) (zr nilN)) (An (An (zr (some (Src.same 1))) (zr nilP)) (An (An (zr (some (Src.same 2))) (zr nilP)) tv))))) tv) (zr true))) (An (An (zr (OB.cells 90 (cDk b ls d))) (zr true)) (An (An (zr 3) (An (An (An (ci (o27 hpre y9 y12 x17 hx17 y20 y22)) (zr nilN)) tv) (zr true))) (An (An (zr 27) (An (An (zr (some (Src.same 10358))) tv) (zr true))) (An (An (zr 3) (An (zr 1) (An (o28 hpre y9 y12 x17 hx17 y20 y22) (fun (i24:Nat)=>(fun (y25:i24 < (fromP b ls (leftB b (ws ++ [(x17:Int) - 1])) (billD b ls d (sdA b ws.length) ((x17:Int) - 1)) (ws ++ [(x17:Int) - 1]) (fromTo b ls (leftB b ws - 1) d ws st x17)).1.length)=>(o29 hpre y9 y12 x17 hx17 y20 y22 i24 y25)))))) tv))))) (An (zr true) (zr true))))) (o30 hpre y9 y12 x17 hx17 y20 y22) (o31 hpre y9 y12 x17 hx17 y20 y22)
    ·refine swp_skip ?_
     refine zR [1,3,5,6,8] [0,1,2,6,6001] (Ak 1 (An (o32 hpre y9 y12 x17 hx17 y20 y22) (Ak 1 tv))) ?_
     exact zn (zEn 6 hE [] [(0,.same 0),(1,.same 1),(6001,.same 6001),(2,.same 2),(6,.same 6)] [1,3] [6] (An (An (An (zr (AV.sl 1 ws.length fun (i:Nat)=>[iv (ws.getD i 0)])) (zr true)) (An (An (zr (AV.rp [AV.rp (cWk b)])) (zr true)) (An (An (zr (some (Src.same 2))) (zr nilP)) (An (An (zr (some (Src.same 6))) (zr nilP)) (An (An (ci (o33 hpre y9 y12 x17 hx17 y20 y22)) (zr nilN)) tv))))) (An (An (An (zr 96) (An (An (An (zr 63) (An (An (zr (some (Src.same 0))) (zr nilP)) (An (An (zr (AV.rp [AV.rp (cWk b)])) (zr nilN)) (An (An (zr (some (Src.same 1))) (zr nilP)) (An (An (zr (some (Src.same 2))) (zr nilP)) tv))))) tv) (zr true))) (An (An (zr (OB.cells 90 (cDk b ls d))) (zr true)) (An (An (zr 3) (An (An (An (ci (o34 hpre y9 y12 x17 hx17 y20 y22)) (zr nilN)) tv) (zr true))) (An (An (zr 27) (An (An (zr (some (Src.same 6001))) tv) (zr true))) (An (An (zr 3) (An (zr 1) (An (o35 hpre y9 y12 x17 hx17 y20 y22) (fun (i26:Nat)=>(fun (y27:i26 < (fromTo b ls (leftB b ws - 1) d ws st x17).1.length)=>(o36 hpre y9 y12 x17 hx17 y20 y22 i26 y27)))))) tv))))) (An (zr true) (zr true))))) (o37 hpre y9 y12 x17 hx17 y20 y22) (o38 hpre y9 y12 x17 hx17 y20 y22)
   ·refine swp_exit ?_
    exact zQ (ASt.mk [] [(0,OB.cells 3 [iv (fromP b ls (leftB b ws) d ws st).2]),(1,OB.cells 27 [AV.vec 7]),(2,OB.cells 96 [AV.clo 63 [AV.ptr 0 [],AV.rp [AV.rp (cWk b)],AV.ptr 1 [],AV.ptr 2 []]]),(7,OB.vec 3 1 (fromP b ls (leftB b ws) d ws st).1.length fun (i:Nat)=>[iv ((fromP b ls (leftB b ws) d ws st).1.getD i 0)])] 100) (zEn 6 hE [] [(0,.same 0),(1,.same 1),(7,.same 6001),(2,.same 2)] [] [] (Ak 1 (An (An (An (zr 3) (An (An (An (ci (o39 hpre y9 y12 x17 hx17 y20)) (zr nilN)) tv) (zr true))) (An (An (zr 27) (An (An (zr (some (Src.same 6001))) tv) (zr true))) (An (An (zr 96) (An (An (An (zr 63) (An (An (zr (some (Src.same 0))) (zr nilP)) (An (An (zr (AV.rp [AV.rp (cWk b)])) (zr nilN)) (An (An (zr (some (Src.same 1))) (zr nilP)) (An (An (zr (some (Src.same 2))) (zr nilP)) tv))))) tv) (zr true))) (An (An (zr 3) (An (zr 1) (An (o40 hpre y9 y12 x17 hx17 y20) (fun (i28:Nat)=>(fun (y29:i28 < (fromTo b ls (leftB b ws - 1) d ws st x17).1.length)=>(o41 hpre y9 y12 x17 hx17 y20 i28 y29)))))) tv)))) (An (zr true) (zr true))))) (Ak 1 (An (zr (AV.tup [])) (An (zr (some (OB.cells 3 [iv (fromP b ls (leftB b ws) d ws st).2]))) (An (zr (some (OB.cells 27 [AV.vec 7]))) (An (zr (some (OB.cells 96 [AV.clo 63 [AV.ptr 0 [],AV.rp [AV.rp (cWk b)],AV.ptr 1 [],AV.ptr 2 []]]))) (An (zr (some (OB.vec 3 1 (fromP b ls (leftB b ws) d ws st).1.length fun (i:Nat)=>[iv ((fromP b ls (leftB b ws) d ws st).1.getD i 0)]))) tv))))))
theorem stop_no {x y:Int} (hc:(bif decide (0<=x) then decide (x<=y) else false)=false):¬ (0<=x/\x<=y):=by
 intro h
 rw [decide_eq_true h.1,decide_eq_true h.2] at hc; cases hc
theorem left_snoc {b:Book} {ws:List Int} (y:Int):leftB b (ws ++ [y])=leftB b ws - 1:=by
 unfold leftB; rw [List.length_append,List.length_singleton]; omega
theorem from_next {b:Book} {ls:List Int} {d:Desk} {ws:List Int} {st:Best} {x:Nat} (hx:x < b.ctrs.length + 1) (h:billOK b ls d (sdA b ws.length) ((x:Int) - 1)=true) :
  fromP b ls (leftB b (ws ++ [(x:Int) - 1])) (billD b ls d (sdA b ws.length) ((x:Int) - 1)) (ws ++ [(x:Int) - 1]) (fromTo b ls (leftB b ws - 1) d ws st x)=fromTo b ls (leftB b ws - 1) d ws st (x + 1):=by
 rw [fromTo_succ hx,left_snoc]
 unfold stepB
 rw [if_pos h]
theorem from_same {b:Book} {ls:List Int} {d:Desk} {ws:List Int} {st:Best} {m x:Nat} (hx:x < b.ctrs.length + 1) (h:billOK b ls d (sdA b ws.length) ((x:Int) - 1)=false):fromTo b ls m d ws st x=fromTo b ls m d ws st (x + 1):=by
 rw [fromTo_succ hx]
 unfold stepB
 rw [if_neg (by rw [h]; simp)]
theorem from_end {b:Book} {ls:List Int} {d:Desk} {ws:List Int} {st:Best} (hl:ws.length < (stds b).length) (h:¬ (0<=st.2/\st.2<=d.cost)):fromTo b ls (leftB b ws - 1) d ws st (b.ctrs.length + 1)=fromP b ls (leftB b ws) d ws st:=by
 have e:leftB b ws=leftB b ws - 1 + 1:=by unfold leftB; omega
 rw [e,from_all h]; rfl
theorem row_eq {l m:List Int} (h:l=m):∀ i,i < l.length -> [iv (l.getD i 0)] = [iv (m.getD i 0)]:=fun i _=>by rw [h]
theorem cat_row (ws:List Int) (y:Int):catF ws.length (fun i=>[iv (ws.getD i 0)]) (fun j=>List.getD [[iv y]] j [iv 0])=fun i=>[iv ((ws ++ [y]).getD i 0)]:=by
 funext i
 rw [getD_append]
 unfold catF
 by_cases h:i < ws.length
 ·rw [if_pos h,if_pos h]
 ·rw [if_neg h,if_neg h]
  cases e:i - ws.length with
  | zero=>rfl
  | succ n=>rfl
theorem t63' (b:Book) (ls:List Int):∀ (n:Nat) (d:Desk) (ws:List Int) (st:Best),leftB b ws=n -> ∀ l:List (Nat × Nat),l.map (·.1) = [0,1,2,3,4,7]->(l.map (·.2)).Nodup->Triple Tryz.prog 63 ((io63 b ls d ws st).at l):=by
  intro n
  induction n using Nat.strongRecOn with
  | _ n ih =>
    intro d ws st hn l hl hnd
    apply wio63 (l:=l) (hl:=hl) (hnd:=hnd)
    all_goals (try delta q3d q3e q3f q3g q3h q3i q3j q3k)
    all_goals (rintro ⟨hs,hg,hlen,hd,ho⟩ hc)
    all_goals (have hst6:=stds_small hs; have hct:=hs.ctrs)
    case o0 | o1=>all_goals (rw [Bool.cond_false_right,Bool.and_eq_true,decide_eq_true_eq,decide_eq_true_eq] at hc; rw [from_stop hc.1 hc.2])
    case o2=>rw [Bool.cond_false_right,Bool.and_eq_true,decide_eq_true_eq,decide_eq_true_eq] at hc; rw [from_stop hc.1 hc.2]; intro i _; rfl
    all_goals (have hc':=stop_no hc)
    all_goals (intro hf; simp only [decide_eq_true_eq,decide_eq_false_iff_not] at hf)
    case o3 | o4 => all_goals (have e : leftB b ws = 0 := by unfold leftB; omega
                               rw [e,from_leaf hc'])
    case o5 => have e : leftB b ws = 0 := by unfold leftB; omega
               rw [e,from_leaf hc']; intro i _; rfl
    all_goals (have hlt:ws.length < (stds b).length:=by omega)
    case o6 | o7 | o8=>all_goals rfl
    case o9=>intro i _; rfl
    case o10=>omega
    all_goals (intro x hx hxl; simp only [decide_eq_true_eq,decide_eq_false_iff_not] at hxl)
    case o39 | o40 => all_goals (have e : x = b.ctrs.length + 1 := by omega
                                 rw [e,from_end hlt hc'])
    case o41 => have e : x = b.ctrs.length + 1 := by omega
                rw [e,from_end hlt hc']; intro i _; rfl
    all_goals (have hxb:x < b.ctrs.length + 1:=by omega)
    case o11=>exact hg
    case o12=>exact hlt
    case o13=>exact hd
    case o14=>omega
    all_goals (intro hb)
    case o15=>omega
    case o16=>exact ih (n - 1) (by unfold leftB at hn; omega) _ _ _ (by rw [left_snoc]; omega) _ rfl (by decide)
    case o17=>exact hg
    case o18=>rw [List.length_append,List.length_singleton]; omega
    case o19=>rw [List.length_append,List.length_singleton]; exact bill_dk hs hg hd _ _
    case o20=>exact fromTo_ok hs hg hd (by unfold leftB; omega) ho x (by omega)
    case o21 | o22 | o23=>all_goals rfl
    case o24=>rw [cat_row]; congr 2; simp
    case o27 | o28=>all_goals (rw [from_next hxb hb])
    case o29=>rw [from_next hxb hb]; intro i _; rfl
    case o34 | o35=>all_goals (rw [← from_same hxb hb])
    case o36=>rw [← from_same hxb hb]; intro i _; rfl
    all_goals (first | omega | (simp only [inI]; omega) | skip)
theorem t63 (i3 i4 i5:Nat) (h:[0,1,2,i3,i4,i5].Nodup) (b:Book) (ls:List Int) (d:Desk) (ws:List Int) (st:Best):Triple Tryz.prog 63 (s63 i3 i4 i5 b ls d ws st):=t63' b ls _ d ws st rfl _ rfl h
abbrev q3l (b:Book) (ls:List Int) (P:Prop):Prop:=SoundB b/\GoodLn b ls->P
abbrev q3m (b:Book) (ls:List Int) (P:Prop):Prop:=q3l b ls (decide (0=(↑((stds b).length):Int))=false->P)
abbrev q3n (b:Book) (x10:Nat) (P:Prop):Prop:=x10<=b.ctrs.length + 1->P
abbrev q3o (b:Book) (x10:Nat) (P:Prop):Prop:=q3n b x10 (decide ((x10:Int) - 1 < (↑(b.ctrs.length):Int))=true->P)
abbrev q3p (b:Book) (ls:List Int) (x10:Nat) (P:Prop):Prop:=q3o b x10 (billOK b ls (desk0 b) (sdA b 0) ((x10:Int) - 1)=true->P)
abbrev q3q (b:Book) (ls:List Int) (x10:Nat) (P:Prop):Prop:=q3o b x10 (billOK b ls (desk0 b) (sdA b 0) ((x10:Int) - 1)=false->P)
abbrev q3r (b:Book) (x10:Nat) (P:Prop):Prop:=q3n b x10 (decide ((x10:Int) - 1 < (↑(b.ctrs.length):Int))=false->P)
theorem wio63n (b:Book) (ls:List Int)
 (o0:q3l b ls (decide (0=(↑((stds b).length):Int))=true->(desk0 b).cost=(bestB b ls).2))
 (o1:q3l b ls (decide (0=(↑((stds b).length):Int))=true->(bestB b ls).1.length=0))
 (o2:q3m b ls (-1=(↑0:Int) - 1))
 (o3:q3m b ls (-1=(fromTo b ls (leftB b [] - 1) (desk0 b) [] ([],-1) 0).2))
 (o4:q3m b ls (0=(fromTo b ls (leftB b [] - 1) (desk0 b) [] ([],-1) 0).1.length))
 (o5:q3m b ls (∀ (i11:Nat),i11 < 0 -> [iv (List.getD [] i11 0)] = [iv ((fromTo b ls (leftB b [] - 1) (desk0 b) [] ([],-1) 0).1.getD i11 0)]))
 (o6:q3m b ls (0<=b.ctrs.length + 1))
 (o7:q3m b ls (∀ (x10:Nat),q3o b x10 (0=(↑0:Int))))
 (o8:q3m b ls (∀ (x10:Nat),q3o b x10 (0 < (stds b).length)))
 (o9:q3m b ls (∀ (x10:Nat),q3o b x10 (okDk 0 (desk0 b))))
 (o10:q3m b ls (∀ (x10:Nat),q3p b ls x10 (Triple Tryz.prog 63 (c63nr b ls x10 10358))))
 (o11:q3m b ls (∀ (x10:Nat),q3p b ls x10 (([] ++ [(x10:Int) - 1]).length<=(stds b).length)))
 (o12:q3m b ls (∀ (x10:Nat),q3p b ls x10 (okDk ([] ++ [(x10:Int) - 1]).length (billD b ls (desk0 b) (sdA b 0) ((x10:Int) - 1)))))
 (o13:q3m b ls (∀ (x10:Nat),q3p b ls x10 (okSt (fromTo b ls (leftB b [] - 1) (desk0 b) [] ([],-1) x10))))
 (o14:q3m b ls (∀ (x10:Nat),q3p b ls x10 (some (OB.cells 3 [iv (fromTo b ls (leftB b [] - 1) (desk0 b) [] ([],-1) x10).2])=some (OB.cells 3 (List.map (fun (x:AV)=>match x with | AV.clo f cs=>AV.clo f (List.map (fun (x:AV)=>match x with | AV.vec b=>AV.vec (Decidable.rec (fun (h:¬0=b)=>Decidable.rec (fun (h:¬1=b)=>Decidable.rec (fun (h:¬2=b)=>Decidable.rec (fun (h:¬3=b)=>Decidable.rec (fun (h:¬4=b)=>Decidable.rec (fun (h:¬7=b)=>b) (fun (h:7=b)=>10358) (instDecidableEqNat 7 b)) (fun (h:4=b)=>6001) (instDecidableEqNat 4 b)) (fun (h:3=b)=>10358 - 8) (instDecidableEqNat 3 b)) (fun (h:2=b)=>2) (instDecidableEqNat 2 b)) (fun (h:1=b)=>1) (instDecidableEqNat 1 b)) (fun (h:0=b)=>0) (instDecidableEqNat 0 b)) | AV.ptr b p=>AV.ptr (Decidable.rec (fun (h:¬0=b)=>Decidable.rec (fun (h:¬1=b)=>Decidable.rec (fun (h:¬2=b)=>Decidable.rec (fun (h:¬3=b)=>Decidable.rec (fun (h:¬4=b)=>Decidable.rec (fun (h:¬7=b)=>b) (fun (h:7=b)=>10358) (instDecidableEqNat 7 b)) (fun (h:4=b)=>6001) (instDecidableEqNat 4 b)) (fun (h:3=b)=>10358 - 8) (instDecidableEqNat 3 b)) (fun (h:2=b)=>2) (instDecidableEqNat 2 b)) (fun (h:1=b)=>1) (instDecidableEqNat 1 b)) (fun (h:0=b)=>0) (instDecidableEqNat 0 b)) p | v=>v) cs) | v=>match v with | AV.vec b=>AV.vec (Decidable.rec (fun (h:¬0=b)=>Decidable.rec (fun (h:¬1=b)=>Decidable.rec (fun (h:¬2=b)=>Decidable.rec (fun (h:¬3=b)=>Decidable.rec (fun (h:¬4=b)=>Decidable.rec (fun (h:¬7=b)=>b) (fun (h:7=b)=>10358) (instDecidableEqNat 7 b)) (fun (h:4=b)=>6001) (instDecidableEqNat 4 b)) (fun (h:3=b)=>10358 - 8) (instDecidableEqNat 3 b)) (fun (h:2=b)=>2) (instDecidableEqNat 2 b)) (fun (h:1=b)=>1) (instDecidableEqNat 1 b)) (fun (h:0=b)=>0) (instDecidableEqNat 0 b)) | AV.ptr b p=>AV.ptr (Decidable.rec (fun (h:¬0=b)=>Decidable.rec (fun (h:¬1=b)=>Decidable.rec (fun (h:¬2=b)=>Decidable.rec (fun (h:¬3=b)=>Decidable.rec (fun (h:¬4=b)=>Decidable.rec (fun (h:¬7=b)=>b) (fun (h:7=b)=>10358) (instDecidableEqNat 7 b)) (fun (h:4=b)=>6001) (instDecidableEqNat 4 b)) (fun (h:3=b)=>10358 - 8) (instDecidableEqNat 3 b)) (fun (h:2=b)=>2) (instDecidableEqNat 2 b)) (fun (h:1=b)=>1) (instDecidableEqNat 1 b)) (fun (h:0=b)=>0) (instDecidableEqNat 0 b)) p | v=>v) [iv (fromTo b ls (leftB b [] - 1) (desk0 b) [] ([],-1) x10).2])))))
 (o15:q3m b ls (∀ (x10:Nat),q3p b ls x10 (some (OB.cells 27 [AV.vec 6001])=some (OB.cells 27 (List.map (fun (x:AV)=>match x with | AV.clo f cs=>AV.clo f (List.map (fun (x:AV)=>match x with | AV.vec b=>AV.vec (Decidable.rec (fun (h:¬0=b)=>Decidable.rec (fun (h:¬1=b)=>Decidable.rec (fun (h:¬2=b)=>Decidable.rec (fun (h:¬3=b)=>Decidable.rec (fun (h:¬4=b)=>Decidable.rec (fun (h:¬7=b)=>b) (fun (h:7=b)=>10358) (instDecidableEqNat 7 b)) (fun (h:4=b)=>6001) (instDecidableEqNat 4 b)) (fun (h:3=b)=>10358 - 8) (instDecidableEqNat 3 b)) (fun (h:2=b)=>2) (instDecidableEqNat 2 b)) (fun (h:1=b)=>1) (instDecidableEqNat 1 b)) (fun (h:0=b)=>0) (instDecidableEqNat 0 b)) | AV.ptr b p=>AV.ptr (Decidable.rec (fun (h:¬0=b)=>Decidable.rec (fun (h:¬1=b)=>Decidable.rec (fun (h:¬2=b)=>Decidable.rec (fun (h:¬3=b)=>Decidable.rec (fun (h:¬4=b)=>Decidable.rec (fun (h:¬7=b)=>b) (fun (h:7=b)=>10358) (instDecidableEqNat 7 b)) (fun (h:4=b)=>6001) (instDecidableEqNat 4 b)) (fun (h:3=b)=>10358 - 8) (instDecidableEqNat 3 b)) (fun (h:2=b)=>2) (instDecidableEqNat 2 b)) (fun (h:1=b)=>1) (instDecidableEqNat 1 b)) (fun (h:0=b)=>0) (instDecidableEqNat 0 b)) p | v=>v) cs) | v=>match v with | AV.vec b=>AV.vec (Decidable.rec (fun (h:¬0=b)=>Decidable.rec (fun (h:¬1=b)=>Decidable.rec (fun (h:¬2=b)=>Decidable.rec (fun (h:¬3=b)=>Decidable.rec (fun (h:¬4=b)=>Decidable.rec (fun (h:¬7=b)=>b) (fun (h:7=b)=>10358) (instDecidableEqNat 7 b)) (fun (h:4=b)=>6001) (instDecidableEqNat 4 b)) (fun (h:3=b)=>10358 - 8) (instDecidableEqNat 3 b)) (fun (h:2=b)=>2) (instDecidableEqNat 2 b)) (fun (h:1=b)=>1) (instDecidableEqNat 1 b)) (fun (h:0=b)=>0) (instDecidableEqNat 0 b)) | AV.ptr b p=>AV.ptr (Decidable.rec (fun (h:¬0=b)=>Decidable.rec (fun (h:¬1=b)=>Decidable.rec (fun (h:¬2=b)=>Decidable.rec (fun (h:¬3=b)=>Decidable.rec (fun (h:¬4=b)=>Decidable.rec (fun (h:¬7=b)=>b) (fun (h:7=b)=>10358) (instDecidableEqNat 7 b)) (fun (h:4=b)=>6001) (instDecidableEqNat 4 b)) (fun (h:3=b)=>10358 - 8) (instDecidableEqNat 3 b)) (fun (h:2=b)=>2) (instDecidableEqNat 2 b)) (fun (h:1=b)=>1) (instDecidableEqNat 1 b)) (fun (h:0=b)=>0) (instDecidableEqNat 0 b)) p | v=>v) [AV.vec 4])))))
 (o16:q3m b ls (∀ (x10:Nat),q3p b ls x10 (some (OB.cells 96 [AV.clo 63 [AV.ptr 0 [],AV.rp [AV.rp (cWk b)],AV.ptr 1 [],AV.ptr 2 []]])=some (OB.cells 96 (List.map (fun (x:AV)=>match x with | AV.clo f cs=>AV.clo f (List.map (fun (x:AV)=>match x with | AV.vec b=>AV.vec (Decidable.rec (fun (h:¬0=b)=>Decidable.rec (fun (h:¬1=b)=>Decidable.rec (fun (h:¬2=b)=>Decidable.rec (fun (h:¬3=b)=>Decidable.rec (fun (h:¬4=b)=>Decidable.rec (fun (h:¬7=b)=>b) (fun (h:7=b)=>10358) (instDecidableEqNat 7 b)) (fun (h:4=b)=>6001) (instDecidableEqNat 4 b)) (fun (h:3=b)=>10358 - 8) (instDecidableEqNat 3 b)) (fun (h:2=b)=>2) (instDecidableEqNat 2 b)) (fun (h:1=b)=>1) (instDecidableEqNat 1 b)) (fun (h:0=b)=>0) (instDecidableEqNat 0 b)) | AV.ptr b p=>AV.ptr (Decidable.rec (fun (h:¬0=b)=>Decidable.rec (fun (h:¬1=b)=>Decidable.rec (fun (h:¬2=b)=>Decidable.rec (fun (h:¬3=b)=>Decidable.rec (fun (h:¬4=b)=>Decidable.rec (fun (h:¬7=b)=>b) (fun (h:7=b)=>10358) (instDecidableEqNat 7 b)) (fun (h:4=b)=>6001) (instDecidableEqNat 4 b)) (fun (h:3=b)=>10358 - 8) (instDecidableEqNat 3 b)) (fun (h:2=b)=>2) (instDecidableEqNat 2 b)) (fun (h:1=b)=>1) (instDecidableEqNat 1 b)) (fun (h:0=b)=>0) (instDecidableEqNat 0 b)) p | v=>v) cs) | v=>match v with | AV.vec b=>AV.vec (Decidable.rec (fun (h:¬0=b)=>Decidable.rec (fun (h:¬1=b)=>Decidable.rec (fun (h:¬2=b)=>Decidable.rec (fun (h:¬3=b)=>Decidable.rec (fun (h:¬4=b)=>Decidable.rec (fun (h:¬7=b)=>b) (fun (h:7=b)=>10358) (instDecidableEqNat 7 b)) (fun (h:4=b)=>6001) (instDecidableEqNat 4 b)) (fun (h:3=b)=>10358 - 8) (instDecidableEqNat 3 b)) (fun (h:2=b)=>2) (instDecidableEqNat 2 b)) (fun (h:1=b)=>1) (instDecidableEqNat 1 b)) (fun (h:0=b)=>0) (instDecidableEqNat 0 b)) | AV.ptr b p=>AV.ptr (Decidable.rec (fun (h:¬0=b)=>Decidable.rec (fun (h:¬1=b)=>Decidable.rec (fun (h:¬2=b)=>Decidable.rec (fun (h:¬3=b)=>Decidable.rec (fun (h:¬4=b)=>Decidable.rec (fun (h:¬7=b)=>b) (fun (h:7=b)=>10358) (instDecidableEqNat 7 b)) (fun (h:4=b)=>6001) (instDecidableEqNat 4 b)) (fun (h:3=b)=>10358 - 8) (instDecidableEqNat 3 b)) (fun (h:2=b)=>2) (instDecidableEqNat 2 b)) (fun (h:1=b)=>1) (instDecidableEqNat 1 b)) (fun (h:0=b)=>0) (instDecidableEqNat 0 b)) p | v=>v) [AV.clo 63 [AV.ptr 0 [],AV.rp [vWk b],AV.ptr 1 [],AV.ptr 2 []]])))))
 (o17:q3m b ls (∀ (x10:Nat),q3p b ls x10 (some (OB.vec 3 1 1 fun (j:Nat)=>List.getD [[iv ((x10:Int) - 1)]] j [iv 0])=some (OB.vec 3 1 ([] ++ [(x10:Int) - 1]).length fun (i:Nat)=>[iv (([] ++ [(x10:Int) - 1]).getD i 0)]))))
 (o18:q3m b ls (∀ (x10:Nat),q3p b ls x10 (inI ((x10:Int) - 1 + 1))))
 (o19:q3m b ls (∀ (x10:Nat),q3p b ls x10 ((x10:Int) - 1 + 1=(↑(x10 + 1):Int) - 1)))
 (o20:q3m b ls (∀ (x10:Nat),q3p b ls x10 ((fromP b ls (leftB b ([] ++ [(x10:Int) - 1])) (billD b ls (desk0 b) (sdA b 0) ((x10:Int) - 1)) ([] ++ [(x10:Int) - 1]) (fromTo b ls (leftB b [] - 1) (desk0 b) [] ([],-1) x10)).2=(fromTo b ls (leftB b [] - 1) (desk0 b) [] ([],-1) (x10 + 1)).2)))
 (o21:q3m b ls (∀ (x10:Nat),q3p b ls x10 ((fromP b ls (leftB b ([] ++ [(x10:Int) - 1])) (billD b ls (desk0 b) (sdA b 0) ((x10:Int) - 1)) ([] ++ [(x10:Int) - 1]) (fromTo b ls (leftB b [] - 1) (desk0 b) [] ([],-1) x10)).1.length=(fromTo b ls (leftB b [] - 1) (desk0 b) [] ([],-1) (x10 + 1)).1.length)))
 (o22:q3m b ls (∀ (x10:Nat),q3p b ls x10 (∀ (i17:Nat),i17 < (fromP b ls (leftB b ([] ++ [(x10:Int) - 1])) (billD b ls (desk0 b) (sdA b 0) ((x10:Int) - 1)) ([] ++ [(x10:Int) - 1]) (fromTo b ls (leftB b [] - 1) (desk0 b) [] ([],-1) x10)).1.length -> [iv ((fromP b ls (leftB b ([] ++ [(x10:Int) - 1])) (billD b ls (desk0 b) (sdA b 0) ((x10:Int) - 1)) ([] ++ [(x10:Int) - 1]) (fromTo b ls (leftB b [] - 1) (desk0 b) [] ([],-1) x10)).1.getD i17 0)] = [iv ((fromTo b ls (leftB b [] - 1) (desk0 b) [] ([],-1) (x10 + 1)).1.getD i17 0)])))
 (o23:q3m b ls (∀ (x10:Nat),q3p b ls x10 (x10 + 1<=b.ctrs.length + 1)))
 (o24:q3m b ls (∀ (x10:Nat),q3p b ls x10 (b.ctrs.length + 1 - (x10 + 1) < b.ctrs.length + 1 - x10)))
 (o25:q3m b ls (∀ (x10:Nat),q3q b ls x10 (inI ((x10:Int) - 1 + 1))))
 (o26:q3m b ls (∀ (x10:Nat),q3q b ls x10 ((x10:Int) - 1 + 1=(↑(x10 + 1):Int) - 1)))
 (o27:q3m b ls (∀ (x10:Nat),q3q b ls x10 ((fromTo b ls (leftB b [] - 1) (desk0 b) [] ([],-1) x10).2=(fromTo b ls (leftB b [] - 1) (desk0 b) [] ([],-1) (x10 + 1)).2)))
 (o28:q3m b ls (∀ (x10:Nat),q3q b ls x10 ((fromTo b ls (leftB b [] - 1) (desk0 b) [] ([],-1) x10).1.length=(fromTo b ls (leftB b [] - 1) (desk0 b) [] ([],-1) (x10 + 1)).1.length)))
 (o29:q3m b ls (∀ (x10:Nat),q3q b ls x10 (∀ (i19:Nat),i19 < (fromTo b ls (leftB b [] - 1) (desk0 b) [] ([],-1) x10).1.length -> [iv ((fromTo b ls (leftB b [] - 1) (desk0 b) [] ([],-1) x10).1.getD i19 0)] = [iv ((fromTo b ls (leftB b [] - 1) (desk0 b) [] ([],-1) (x10 + 1)).1.getD i19 0)])))
 (o30:q3m b ls (∀ (x10:Nat),q3q b ls x10 (x10 + 1<=b.ctrs.length + 1)))
 (o31:q3m b ls (∀ (x10:Nat),q3q b ls x10 (b.ctrs.length + 1 - (x10 + 1) < b.ctrs.length + 1 - x10)))
 (o32:q3m b ls (∀ (x10:Nat),q3r b x10 ((fromTo b ls (leftB b [] - 1) (desk0 b) [] ([],-1) x10).2=(bestB b ls).2)))
 (o33:q3m b ls (∀ (x10:Nat),q3r b x10 ((fromTo b ls (leftB b [] - 1) (desk0 b) [] ([],-1) x10).1.length=(bestB b ls).1.length)))
 (o34:q3m b ls (∀ (x10:Nat),q3r b x10 (∀ (i21:Nat),i21 < (fromTo b ls (leftB b [] - 1) (desk0 b) [] ([],-1) x10).1.length -> [iv ((fromTo b ls (leftB b [] - 1) (desk0 b) [] ([],-1) x10).1.getD i21 0)] = [iv ((bestB b ls).1.getD i21 0)])))
  (l:List (Nat × Nat)) (hl:l.map (·.1) = [0,1,2,4,7]) (hnd:(l.map (·.2)).Nodup) :
  Triple Tryz.prog 63 (IoSpec.at (io63n b ls) l):=by
 refine triple_io Tryz.func63 rfl Tryz.call63 T0_ok (io63n b ls) 6 l (by rw [hl]; kernel_rfl) hnd (Nat.le_of_ble_eq_true (by kernel_rfl)) (fun _ _ _ _ h=>h) ?_
 intro hpre C hC _ hE
 obtain ⟨P,w0,E0,av,hA,ro,df⟩:=C
 obtain ⟨rfl,rfl,rfl⟩:=hC
 refine swp_seq ?_
 refine zR [1,2,3,4,5,6] [0,1,2,6,4] (Ak 1 tv) ?_
 refine swp_seq ?_
 refine swp_seq ?_
 refine zR [1,2,3,4,5,6,17] [0,1,2,6,4] (Ak 3 (An (fun (y0:false=true)=>(An (Ak 1 tv) tv)) (An (fun (y1:false=true)=>(An (An (fun (y2:false=true)=>y1) tv) tv)) (An (fun (y3:false=true)=>(An (Ak 1 tv) tv)) (An (fun (y4:false=true)=>(An (An (fun (y5:false=true)=>y4) (An (fun (y6:false=true)=>y4) tv)) tv)) (An (An (fun (y7:false=true)=>y7) (fun (y8:false=false)=>tv)) tv)))))) ?_
 refine zf ?_
 refine swp_skip ?_
 refine swp_seq ?_
 refine swp_seq ?_
 refine zR [1,2,3,4,5,6,25] [0,1,2,6,4] (Ak 8 tv) ?_
 refine zI (decide (0=(↑((stds b).length):Int))) (fun y9 => ?_) (fun y9 => ?_)
 ·refine swp_seq ?_
  refine zR [] [0,1,2] (Ak 5 tv) ?_
  refine swp_ret ?_
  exact zO (ASt.mk [] [(0,OB.cells 3 [iv (bestB b ls).2]),(1,OB.cells 27 [AV.vec 7]),(2,OB.cells 96 [AV.clo 63 [AV.ptr 0 [],AV.rp [AV.rp (cWk b)],AV.ptr 1 [],AV.ptr 2 []]]),(7,OB.vec 3 1 (bestB b ls).1.length fun (i:Nat)=>[iv ((bestB b ls).1.getD i 0)])] 100) (zEn 6 hE [] [(0,.same 0),(1,.same 1),(7,.nil),(2,.same 2)] [] [] (Ak 1 (An (An (An (zr 3) (An (An (An (ci (o0 hpre y9)) (zr nilN)) tv) (zr true))) (An (An (zr 27) (An (An (zr (some Src.nil)) tv) (zr true))) (An (An (zr 96) (An (An (An (zr 63) (An (An (zr (some (Src.same 0))) (zr nilP)) (An (An (zr (AV.rp [AV.rp (cWk b)])) (zr nilN)) (An (An (zr (some (Src.same 1))) (zr nilP)) (An (An (zr (some (Src.same 2))) (zr nilP)) tv))))) tv) (zr true))) (An (o1 hpre y9) tv)))) (An (zr true) (zr true))))) (Ak 1 (An (zr (AV.tup [])) (An (zr (some (OB.cells 3 [iv (bestB b ls).2]))) (An (zr (some (OB.cells 27 [AV.vec 7]))) (An (zr (some (OB.cells 96 [AV.clo 63 [AV.ptr 0 [],AV.rp [AV.rp (cWk b)],AV.ptr 1 [],AV.ptr 2 []]]))) (An (zr (some (OB.vec 3 1 (bestB b ls).1.length fun (i:Nat)=>[iv ((bestB b ls).1.getD i 0)]))) tv))))))
 ·refine swp_skip ?_
  refine swp_seq ?_
  refine zR [1,3,5,6,8] [0,1,2,6,4] (Ak 1 tv) ?_
  refine swp_block ?_
  refine zL (Hint.ann (h63n b ls) [(1,nilv),(3,AV.rp [AV.rp (cWk b)]),(5,AV.ptr 2 []),(6,AV.ptr 6 [])] [(2,OB.cells 96 [AV.clo 63 [AV.ptr 0 [],AV.rp [AV.rp (cWk b)],AV.ptr 1 [],AV.ptr 2 []]]),(6,OB.cells 90 (cDk b ls (desk0 b)))] 10150) (zEn 6 hE [] [(0,.same 0),(1,.same 1),(6001,.same 4),(2,.same 2),(6,.same 6)] [1,3] [6] (An (An (An (zr (nilv)) (zr true)) (An (An (zr (AV.rp [AV.rp (cWk b)])) (zr true)) (An (An (zr (some (Src.same 2))) (zr nilP)) (An (An (zr (some (Src.same 6))) (zr nilP)) (An (An (ci (o2 hpre y9)) (zr nilN)) tv))))) (An (An (An (zr 96) (An (An (An (zr 63) (An (An (zr (some (Src.same 0))) (zr nilP)) (An (An (zr (AV.rp [AV.rp (cWk b)])) (zr nilN)) (An (An (zr (some (Src.same 1))) (zr nilP)) (An (An (zr (some (Src.same 2))) (zr nilP)) tv))))) tv) (zr true))) (An (An (zr (OB.cells 90 (cDk b ls (desk0 b)))) (zr true)) (An (An (zr 3) (An (An (An (ci (o3 hpre y9)) (zr nilN)) tv) (zr true))) (An (An (zr 27) (An (An (zr (some (Src.same 4))) tv) (zr true))) (An (An (zr 3) (An (zr 1) (An (o4 hpre y9) (fun (i11:Nat)=>(fun (y12:i11 < 0)=>(o5 hpre y9 i11 y12)))))) tv))))) (An (zr true) (zr true))))) (o6 hpre y9) (fun (x10:Nat) hx10 => ?_)
  refine swp_seq ?_
  refine swp_seq ?_
  refine zR [1,3,5,6,8,36] [0,1,2,6,6001] (Ak 8 tv) ?_
  refine zI (decide ((x10:Int) - 1 < (↑(b.ctrs.length):Int))) (fun y13 => ?_) (fun y13 => ?_)
  ·refine swp_skip ?_
   refine swp_seq ?_
   refine swp_block ?_
   refine swp_seq ?_
   refine zR [1,3,5,6,8,9] [0,1,2,6,10222,6001] (Ak 3 tv) ?_
   refine swp_seq ?_
   refine zC ([(3,CallSpec.eq (c63nb b ls x10) [true,false,true])]) [1,3,5,6,8,9,43] [0,1,2,6,10222,6001] (Ak 3 (An (An (An (zr (AV.ptr 10222 [])) (An (ci (o7 hpre y9 x10 hx10 y13)) (An (zr (iv ((x10:Int) - 1))) tv))) (An (t58 (10222) (b) (ls) (desk0 b) (0) ((x10:Int) - 1) (0)) (An (An hpre.1 (An hpre.2 (An (o8 hpre y9 x10 hx10 y13) (An (o9 hpre y9 x10 hx10 y13) (by decide:0<=10))))) (An (An (zr (some (OB.cells 90 (cDk b ls (desk0 b))))) tv) (fun (i14:Env)=>tv))))) tv)) ?_
   refine zI (billOK b ls (desk0 b) (sdA b 0) ((x10:Int) - 1)) (fun y15 => ?_) (fun y15 => ?_)
   ·refine zC ([(7,focB8),(11,CallSpec.eq (c63nr b ls x10 10358) [true,true,true,true,true,true])]) [1,3,5,6,8] [0,1,2,6,10358] (Ak 7 (An (An (zr (0:Int)) (zr (0:Int))) (Ak 2 (An (by decide:1<=65536) (An (An (An (zr (AV.agg (cDk b ls (billD b ls (desk0 b) (sdA b 0) ((x10:Int) - 1))))) (An (zr (AV.vec 10350)) (An (zr (AV.ptr 0 [])) (An (zr (AV.rp [AV.rp (cWk b)])) (An (zr (AV.ptr 1 [])) (An (zr (AV.ptr 2 [])) tv)))))) (An (o10 hpre y9 x10 hx10 y13 y15) (An (An hpre.1 (An hpre.2 (An (o11 hpre y9 x10 hx10 y13 y15) (An (o12 hpre y9 x10 hx10 y13 y15) (o13 hpre y9 x10 hx10 y13 y15))))) (An (An (o14 hpre y9 x10 hx10 y13 y15) (An (o15 hpre y9 x10 hx10 y13 y15) (An (o16 hpre y9 x10 hx10 y13 y15) (An (o17 hpre y9 x10 hx10 y13 y15) (An (zr (some (OB.vec 3 1 (fromTo b ls (leftB b [] - 1) (desk0 b) [] ([],-1) x10).1.length fun (i:Nat)=>[iv ((fromTo b ls (leftB b [] - 1) (desk0 b) [] ([],-1) x10).1.getD i 0)]))) tv))))) (fun (i16:Env)=>tv))))) tv))))) ?_
    refine zR [1,3,5,6,8] [0,1,2,6,10358] (Ak 1 (An (o18 hpre y9 x10 hx10 y13 y15) (Ak 1 tv))) ?_
    exact zn (zEn 6 hE [] [(0,.same 0),(1,.same 1),(6001,.same 10358),(2,.same 2),(6,.same 6)] [1,3] [6] (An (An (An (zr (nilv)) (zr true)) (An (An (zr (AV.rp [AV.rp (cWk b)])) (zr true)) (An (An (zr (some (Src.same 2))) (zr nilP)) (An (An (zr (some (Src.same 6))) (zr nilP)) (An (An (ci (o19 hpre y9 x10 hx10 y13 y15)) (zr nilN)) tv))))) (An (An (An (zr 96) (An (An (An (zr 63) (An (An (zr (some (Src.same 0))) (zr nilP)) (An (An (zr (AV.rp [AV.rp (cWk b)])) (zr nilN)) (An (An (zr (some (Src.same 1))) (zr nilP)) (An (An (zr (some (Src.same 2))) (zr nilP)) tv))))) tv) (zr true))) (An (An (zr (OB.cells 90 (cDk b ls (desk0 b)))) (zr true)) (An (An (zr 3) (An (An (An (ci (o20 hpre y9 x10 hx10 y13 y15)) (zr nilN)) tv) (zr true))) (An (An (zr 27) (An (An (zr (some (Src.same 10358))) tv) (zr true))) (An (An (zr 3) (An (zr 1) (An (o21 hpre y9 x10 hx10 y13 y15) (fun (i17:Nat)=>(fun (y18:i17 < (fromP b ls (leftB b ([] ++ [(x10:Int) - 1])) (billD b ls (desk0 b) (sdA b 0) ((x10:Int) - 1)) ([] ++ [(x10:Int) - 1]) (fromTo b ls (leftB b [] - 1) (desk0 b) [] ([],-1) x10)).1.length)=>(o22 hpre y9 x10 hx10 y13 y15 i17 y18)))))) tv))))) (An (zr true) (zr true))))) (o23 hpre y9 x10 hx10 y13 y15) (o24 hpre y9 x10 hx10 y13 y15)
   ·refine swp_skip ?_
    refine zR [1,3,5,6,8] [0,1,2,6,6001] (Ak 1 (An (o25 hpre y9 x10 hx10 y13 y15) (Ak 1 tv))) ?_
    exact zn (zEn 6 hE [] [(0,.same 0),(1,.same 1),(6001,.same 6001),(2,.same 2),(6,.same 6)] [1,3] [6] (An (An (An (zr (nilv)) (zr true)) (An (An (zr (AV.rp [AV.rp (cWk b)])) (zr true)) (An (An (zr (some (Src.same 2))) (zr nilP)) (An (An (zr (some (Src.same 6))) (zr nilP)) (An (An (ci (o26 hpre y9 x10 hx10 y13 y15)) (zr nilN)) tv))))) (An (An (An (zr 96) (An (An (An (zr 63) (An (An (zr (some (Src.same 0))) (zr nilP)) (An (An (zr (AV.rp [AV.rp (cWk b)])) (zr nilN)) (An (An (zr (some (Src.same 1))) (zr nilP)) (An (An (zr (some (Src.same 2))) (zr nilP)) tv))))) tv) (zr true))) (An (An (zr (OB.cells 90 (cDk b ls (desk0 b)))) (zr true)) (An (An (zr 3) (An (An (An (ci (o27 hpre y9 x10 hx10 y13 y15)) (zr nilN)) tv) (zr true))) (An (An (zr 27) (An (An (zr (some (Src.same 6001))) tv) (zr true))) (An (An (zr 3) (An (zr 1) (An (o28 hpre y9 x10 hx10 y13 y15) (fun (i19:Nat)=>(fun (y20:i19 < (fromTo b ls (leftB b [] - 1) (desk0 b) [] ([],-1) x10).1.length)=>(o29 hpre y9 x10 hx10 y13 y15 i19 y20)))))) tv))))) (An (zr true) (zr true))))) (o30 hpre y9 x10 hx10 y13 y15) (o31 hpre y9 x10 hx10 y13 y15)
  ·refine swp_exit ?_
   exact zQ (ASt.mk [] [(0,OB.cells 3 [iv (bestB b ls).2]),(1,OB.cells 27 [AV.vec 7]),(2,OB.cells 96 [AV.clo 63 [AV.ptr 0 [],AV.rp [AV.rp (cWk b)],AV.ptr 1 [],AV.ptr 2 []]]),(7,OB.vec 3 1 (bestB b ls).1.length fun (i:Nat)=>[iv ((bestB b ls).1.getD i 0)])] 100) (zEn 6 hE [] [(0,.same 0),(1,.same 1),(7,.same 6001),(2,.same 2)] [] [] (Ak 1 (An (An (An (zr 3) (An (An (An (ci (o32 hpre y9 x10 hx10 y13)) (zr nilN)) tv) (zr true))) (An (An (zr 27) (An (An (zr (some (Src.same 6001))) tv) (zr true))) (An (An (zr 96) (An (An (An (zr 63) (An (An (zr (some (Src.same 0))) (zr nilP)) (An (An (zr (AV.rp [AV.rp (cWk b)])) (zr nilN)) (An (An (zr (some (Src.same 1))) (zr nilP)) (An (An (zr (some (Src.same 2))) (zr nilP)) tv))))) tv) (zr true))) (An (An (zr 3) (An (zr 1) (An (o33 hpre y9 x10 hx10 y13) (fun (i21:Nat)=>(fun (y22:i21 < (fromTo b ls (leftB b [] - 1) (desk0 b) [] ([],-1) x10).1.length)=>(o34 hpre y9 x10 hx10 y13 i21 y22)))))) tv)))) (An (zr true) (zr true))))) (Ak 1 (An (zr (AV.tup [])) (An (zr (some (OB.cells 3 [iv (bestB b ls).2]))) (An (zr (some (OB.cells 27 [AV.vec 7]))) (An (zr (some (OB.cells 96 [AV.clo 63 [AV.ptr 0 [],AV.rp [AV.rp (cWk b)],AV.ptr 1 [],AV.ptr 2 []]]))) (An (zr (some (OB.vec 3 1 (bestB b ls).1.length fun (i:Nat)=>[iv ((bestB b ls).1.getD i 0)]))) tv))))))
theorem best_from (b:Book) (ls:List Int):bestB b ls=fromP b ls (leftB b []) (desk0 b) [] ([],-1):=rfl
theorem t63n (i0 i1 i2 i4 i5:Nat) (b:Book) (ls:List Int) (h:[i0,i1,i2,i4,i5].Nodup:=by decide):Triple Tryz.prog 63 (s63n i0 i1 i2 i4 i5 b ls):=by
  apply wio63n b ls (l:=[(0,i0),(1,i1),(2,i2),(4,i4),(7,i5)]) (hl:=rfl) (hnd:=h)
  all_goals (try delta q3l q3m q3n q3o q3p q3q q3r)
  all_goals (rintro ⟨hs,hg⟩ hf; simp only [decide_eq_true_eq,decide_eq_false_iff_not] at hf)
  all_goals (have hst6:=stds_small hs; have hct:=hs.ctrs; have hd:=desk0_dk hs; have hc':¬ (0<=(([],-1):Best).2/\(([],-1):Best).2<=(desk0 b).cost):=by simp)
  case o0 | o1 => all_goals (have e : leftB b [] = 0 := by unfold leftB; simp only [List.length_nil]; omega
                             rw [best_from,e,from_leaf hc']; try rfl)
  case o2 | o3 | o4=>all_goals rfl
  case o5=>intro i _; rfl
  case o6=>omega
  all_goals (have hlt:([]:List Int).length < (stds b).length:=by simp only [List.length_nil]; omega)
  all_goals (intro x hx hxl; simp only [decide_eq_true_eq,decide_eq_false_iff_not] at hxl)
  case o32 | o33 => all_goals (have e : x = b.ctrs.length + 1 := by omega
                               rw [e,from_end hlt hc',best_from])
  case o34 => have e : x = b.ctrs.length + 1 := by omega
              rw [e,from_end hlt hc',best_from]; intro i _; rfl
  all_goals (have hxb:x < b.ctrs.length + 1:=by omega)
  case o7=>rfl
  case o8=>exact hlt
  case o9=>exact hd
  all_goals (intro hb)
  case o10=>exact t63 _ _ _ (by decide) b ls _ _ _
  case o11=>simp only [List.nil_append,List.length_singleton]; simp only [List.length_nil] at hlt; omega
  case o12=>simp only [List.nil_append,List.length_singleton]; exact bill_dk hs hg hd _ _
  case o13=>exact fromTo_ok hs hg hd (by unfold leftB; simp only [List.length_nil]; omega) ⟨by simp,by simp⟩ x (by omega)
  case o14 | o15 | o16=>all_goals rfl
  case o17 => have := cat_row [] ((x : Int) - 1)
              refine congrArg (fun g=>some (OB.vec _ 1 1 g)) ?_
              rw [← this]; funext j; unfold catF; simp
  case o20 | o21=>all_goals (have:=from_next (ls:=ls) (d:=desk0 b) (ws:=[]) (st:=([],-1)) hxb hb; first | rw [this] | (rw [← this]; rfl))
  case o22=>exact row_eq (congrArg Prod.fst <| from_next (ls:=ls) (d:=desk0 b) (ws:=[]) (st:=([],-1)) hxb hb)
  case o27 | o28=>all_goals (rw [← from_same (ws:=[]) hxb hb])
  case o29=>rw [← from_same (ws:=[]) hxb hb]; intro i _; rfl
  all_goals (first | omega | (simp only [inI]; omega) | skip)
theorem wo32 (b:Book) (ls:List Int)
  (o0:SoundB b/\GoodLn b ls->some (OB.cells 3 [iv (-1)])=some (OB.cells 3 (List.map (fun (x:AV)=>match x with | AV.clo f cs=>AV.clo f (List.map (fun (x:AV)=>match x with | AV.vec b=>AV.vec (Decidable.rec (fun (h:¬0=b)=>Decidable.rec (fun (h:¬1=b)=>Decidable.rec (fun (h:¬2=b)=>Decidable.rec (fun (h:¬4=b)=>Decidable.rec (fun (h:¬7=b)=>b) (fun (h:7=b)=>88) (instDecidableEqNat 7 b)) (fun (h:4=b)=>9) (instDecidableEqNat 4 b)) (fun (h:2=b)=>32) (instDecidableEqNat 2 b)) (fun (h:1=b)=>8) (instDecidableEqNat 1 b)) (fun (h:0=b)=>16) (instDecidableEqNat 0 b)) | AV.ptr b p=>AV.ptr (Decidable.rec (fun (h:¬0=b)=>Decidable.rec (fun (h:¬1=b)=>Decidable.rec (fun (h:¬2=b)=>Decidable.rec (fun (h:¬4=b)=>Decidable.rec (fun (h:¬7=b)=>b) (fun (h:7=b)=>88) (instDecidableEqNat 7 b)) (fun (h:4=b)=>9) (instDecidableEqNat 4 b)) (fun (h:2=b)=>32) (instDecidableEqNat 2 b)) (fun (h:1=b)=>8) (instDecidableEqNat 1 b)) (fun (h:0=b)=>16) (instDecidableEqNat 0 b)) p | v=>v) cs) | v=>match v with | AV.vec b=>AV.vec (Decidable.rec (fun (h:¬0=b)=>Decidable.rec (fun (h:¬1=b)=>Decidable.rec (fun (h:¬2=b)=>Decidable.rec (fun (h:¬4=b)=>Decidable.rec (fun (h:¬7=b)=>b) (fun (h:7=b)=>88) (instDecidableEqNat 7 b)) (fun (h:4=b)=>9) (instDecidableEqNat 4 b)) (fun (h:2=b)=>32) (instDecidableEqNat 2 b)) (fun (h:1=b)=>8) (instDecidableEqNat 1 b)) (fun (h:0=b)=>16) (instDecidableEqNat 0 b)) | AV.ptr b p=>AV.ptr (Decidable.rec (fun (h:¬0=b)=>Decidable.rec (fun (h:¬1=b)=>Decidable.rec (fun (h:¬2=b)=>Decidable.rec (fun (h:¬4=b)=>Decidable.rec (fun (h:¬7=b)=>b) (fun (h:7=b)=>88) (instDecidableEqNat 7 b)) (fun (h:4=b)=>9) (instDecidableEqNat 4 b)) (fun (h:2=b)=>32) (instDecidableEqNat 2 b)) (fun (h:1=b)=>8) (instDecidableEqNat 1 b)) (fun (h:0=b)=>16) (instDecidableEqNat 0 b)) p | v=>v) [iv (-1)])))
  (o1:SoundB b/\GoodLn b ls->some (OB.cells 27 [AV.vec 9])=some (OB.cells 27 (List.map (fun (x:AV)=>match x with | AV.clo f cs=>AV.clo f (List.map (fun (x:AV)=>match x with | AV.vec b=>AV.vec (Decidable.rec (fun (h:¬0=b)=>Decidable.rec (fun (h:¬1=b)=>Decidable.rec (fun (h:¬2=b)=>Decidable.rec (fun (h:¬4=b)=>Decidable.rec (fun (h:¬7=b)=>b) (fun (h:7=b)=>88) (instDecidableEqNat 7 b)) (fun (h:4=b)=>9) (instDecidableEqNat 4 b)) (fun (h:2=b)=>32) (instDecidableEqNat 2 b)) (fun (h:1=b)=>8) (instDecidableEqNat 1 b)) (fun (h:0=b)=>16) (instDecidableEqNat 0 b)) | AV.ptr b p=>AV.ptr (Decidable.rec (fun (h:¬0=b)=>Decidable.rec (fun (h:¬1=b)=>Decidable.rec (fun (h:¬2=b)=>Decidable.rec (fun (h:¬4=b)=>Decidable.rec (fun (h:¬7=b)=>b) (fun (h:7=b)=>88) (instDecidableEqNat 7 b)) (fun (h:4=b)=>9) (instDecidableEqNat 4 b)) (fun (h:2=b)=>32) (instDecidableEqNat 2 b)) (fun (h:1=b)=>8) (instDecidableEqNat 1 b)) (fun (h:0=b)=>16) (instDecidableEqNat 0 b)) p | v=>v) cs) | v=>match v with | AV.vec b=>AV.vec (Decidable.rec (fun (h:¬0=b)=>Decidable.rec (fun (h:¬1=b)=>Decidable.rec (fun (h:¬2=b)=>Decidable.rec (fun (h:¬4=b)=>Decidable.rec (fun (h:¬7=b)=>b) (fun (h:7=b)=>88) (instDecidableEqNat 7 b)) (fun (h:4=b)=>9) (instDecidableEqNat 4 b)) (fun (h:2=b)=>32) (instDecidableEqNat 2 b)) (fun (h:1=b)=>8) (instDecidableEqNat 1 b)) (fun (h:0=b)=>16) (instDecidableEqNat 0 b)) | AV.ptr b p=>AV.ptr (Decidable.rec (fun (h:¬0=b)=>Decidable.rec (fun (h:¬1=b)=>Decidable.rec (fun (h:¬2=b)=>Decidable.rec (fun (h:¬4=b)=>Decidable.rec (fun (h:¬7=b)=>b) (fun (h:7=b)=>88) (instDecidableEqNat 7 b)) (fun (h:4=b)=>9) (instDecidableEqNat 4 b)) (fun (h:2=b)=>32) (instDecidableEqNat 2 b)) (fun (h:1=b)=>8) (instDecidableEqNat 1 b)) (fun (h:0=b)=>16) (instDecidableEqNat 0 b)) p | v=>v) [AV.vec 4])))
  (o2:SoundB b/\GoodLn b ls->some (OB.cells 96 [AV.clo 63 [AV.ptr 16 [],AV.rp [AV.rp (cWk b)],AV.ptr 8 [],AV.ptr 32 []]])=some (OB.cells 96 (List.map (fun (x:AV)=>match x with | AV.clo f cs=>AV.clo f (List.map (fun (x:AV)=>match x with | AV.vec b=>AV.vec (Decidable.rec (fun (h:¬0=b)=>Decidable.rec (fun (h:¬1=b)=>Decidable.rec (fun (h:¬2=b)=>Decidable.rec (fun (h:¬4=b)=>Decidable.rec (fun (h:¬7=b)=>b) (fun (h:7=b)=>88) (instDecidableEqNat 7 b)) (fun (h:4=b)=>9) (instDecidableEqNat 4 b)) (fun (h:2=b)=>32) (instDecidableEqNat 2 b)) (fun (h:1=b)=>8) (instDecidableEqNat 1 b)) (fun (h:0=b)=>16) (instDecidableEqNat 0 b)) | AV.ptr b p=>AV.ptr (Decidable.rec (fun (h:¬0=b)=>Decidable.rec (fun (h:¬1=b)=>Decidable.rec (fun (h:¬2=b)=>Decidable.rec (fun (h:¬4=b)=>Decidable.rec (fun (h:¬7=b)=>b) (fun (h:7=b)=>88) (instDecidableEqNat 7 b)) (fun (h:4=b)=>9) (instDecidableEqNat 4 b)) (fun (h:2=b)=>32) (instDecidableEqNat 2 b)) (fun (h:1=b)=>8) (instDecidableEqNat 1 b)) (fun (h:0=b)=>16) (instDecidableEqNat 0 b)) p | v=>v) cs) | v=>match v with | AV.vec b=>AV.vec (Decidable.rec (fun (h:¬0=b)=>Decidable.rec (fun (h:¬1=b)=>Decidable.rec (fun (h:¬2=b)=>Decidable.rec (fun (h:¬4=b)=>Decidable.rec (fun (h:¬7=b)=>b) (fun (h:7=b)=>88) (instDecidableEqNat 7 b)) (fun (h:4=b)=>9) (instDecidableEqNat 4 b)) (fun (h:2=b)=>32) (instDecidableEqNat 2 b)) (fun (h:1=b)=>8) (instDecidableEqNat 1 b)) (fun (h:0=b)=>16) (instDecidableEqNat 0 b)) | AV.ptr b p=>AV.ptr (Decidable.rec (fun (h:¬0=b)=>Decidable.rec (fun (h:¬1=b)=>Decidable.rec (fun (h:¬2=b)=>Decidable.rec (fun (h:¬4=b)=>Decidable.rec (fun (h:¬7=b)=>b) (fun (h:7=b)=>88) (instDecidableEqNat 7 b)) (fun (h:4=b)=>9) (instDecidableEqNat 4 b)) (fun (h:2=b)=>32) (instDecidableEqNat 2 b)) (fun (h:1=b)=>8) (instDecidableEqNat 1 b)) (fun (h:0=b)=>16) (instDecidableEqNat 0 b)) p | v=>v) [AV.clo 63 [AV.ptr 0 [],AV.rp [vWk b],AV.ptr 1 [],AV.ptr 2 []]])))
  (l:List (Nat × Nat)) (hl:l.map (·.1)=(OutSpec.hout (ou32 b ls)).map (·.1)) (hnd:(l.map (·.2)).Nodup) :
  Triple Tryz.prog 32 (OutSpec.at (ou32 b ls) l):=by
 refine triple_out Tryz.func32 rfl Tryz.call32 T0_ok _ _ _ _ l rfl (Nat.le_of_ble_eq_true (by kernel_rfl)) hl hnd (by kernel_rfl) (by kernel_rfl) (by kernel_rfl) ?_
 intro hpre C hC hE
 obtain ⟨P,w0,E0,av,hA,ro,df⟩:=C
 obtain ⟨rfl,rfl,rfl⟩:=hC
 refine swp_seq ?_
 refine zC ([(0,focB8)]) [1,2,4,5] [8,16] (Ak 3 tv) ?_
 refine swp_seq ?_
 refine zR [1,2,4,5] [8,16] (Ak 1 tv) ?_
 refine swp_seq ?_
 refine zR [1,2,4,5,6] [8,16,32] (Ak 1 tv) ?_
 refine swp_seq ?_
 refine zR [1,2,4,5,6] [8,16,32] (Ak 2 tv) ?_
 refine swp_seq ?_
 refine swp_ent (zE (st2:=ASt.mk [(1,aInts ls),(2,AV.rp [AV.rp (cWk b)]),(4,AV.ptr 8 []),(5,AV.ptr 16 []),(6,AV.ptr 32 [])] [(8,OB.cells 27 [AV.vec 9]),(9,OB.vec 3 1 0 fun (i:Nat)=>[iv (List.getD [] i 0)]),(16,OB.cells 3 [iv (-1)]),(32,OB.cells 96 [AV.clo 63 [AV.ptr 16 [],AV.rp [AV.rp (cWk b)],AV.ptr 8 [],AV.ptr 32 []]])] 56) hE [] [(8,.same 8),(9,.nil),(16,.same 16),(32,.same 32)] [1,2] [16] (An (An (An (zr (aInts ls)) (zr true)) (An (An (zr (AV.rp [AV.rp (cWk b)])) (zr true)) (An (An (zr (some (Src.same 8))) (zr nilP)) (An (An (zr (some (Src.same 16))) (zr nilP)) (An (An (zr (some (Src.same 32))) (zr nilP)) tv))))) (An (An (An (zr 27) (An (An (zr (some Src.nil)) tv) (zr true))) (An (zr 0) (An (An (zr (OB.cells 3 [iv (-1)])) (zr true)) (An (An (zr 96) (An (An (An (zr 63) (An (An (zr (some (Src.same 16))) (zr nilP)) (An (An (zr (AV.rp [AV.rp (cWk b)])) (zr nilN)) (An (An (zr (some (Src.same 8))) (zr nilP)) (An (An (zr (some (Src.same 32))) (zr nilP)) tv))))) tv) (zr true))) tv)))) (An (zr true) (zr true))))) ?_
 refine zC ([(3,CallSpec.eq (s57 b ls) [true,true]),(4,CallSpec.eq (c32 b ls 88) [true,true,true,true,true,true])]) [4,5] [8,16,88] (Ak 3 (An (An (An (zr (AV.rp (cWk b))) (An (zr (aInts ls)) tv)) (An (t57 (b) (ls)) (An hpre.1 (Ak 1 (fun (i0:Env)=>tv))))) (An (An (An (zr (AV.agg (cDk b ls (desk0 b)))) (An (zr (nilv)) (An (zr (AV.ptr 16 [])) (An (zr (AV.rp [AV.rp (cWk b)])) (An (zr (AV.ptr 8 [])) (An (zr (AV.ptr 32 [])) tv)))))) (An (t63n (16) (8) (32) (9) (88) (b) (ls)) (An (An hpre.1 hpre.2) (An (An (o0 hpre) (An (o1 hpre) (An (o2 hpre) (An (zr (some (OB.vec 3 1 0 fun (i:Nat)=>[iv (List.getD [] i 0)]))) tv)))) (fun (i1:Env)=>tv))))) tv))) ?_
 refine swp_seq ?_
 refine zR [4,5] [8,16,88] (Ak 4 tv) ?_
 refine swp_ret ?_
 exact zO (ASt.mk [(4,AV.ptr 90 []),(5,AV.ptr 91 [])] [(90,OB.cells 27 [AV.vec 0]),(91,OB.cells 3 [iv (bestB b ls).2]),(0,OB.vec 3 1 (bestB b ls).1.length fun (i:Nat)=>[iv ((bestB b ls).1.getD i 0)])] 100) (zE hE [] [(90,.same 8),(0,.same 88),(91,.same 16)] [] [] (An (An (An (zr (some (Src.same 8))) (zr nilP)) (An (An (zr (some (Src.same 16))) (zr nilP)) tv)) (An (An (An (zr 27) (An (An (zr (some (Src.same 88))) tv) (zr true))) (An (An (zr 3) (An (An (An (zr (iv (bestB b ls).2)) (zr nilN)) tv) (zr true))) (An (An (zr 3) (An (zr 1) (An (zr (bestB b ls).1.length) (fun (i2:Nat)=>(fun (y3:i2 < (bestB b ls).1.length)=>(zr ([iv ((bestB b ls).1.getD i2 0)]))))))) tv))) (An (zr true) (zr true))))) (An (Ak 2 tv) (An (zr (AV.tup [AV.vec 0,iv (bestB b ls).2])) (An (zr (some (OB.vec 3 1 (bestB b ls).1.length fun (i:Nat)=>[iv ((bestB b ls).1.getD i 0)]))) tv)))
theorem to32 (b:Book) (ls:List Int) (l:List (Nat × Nat)) (hl:l.map (·.1) = [0]) (hnd:(l.map (·.2)).Nodup):Triple Tryz.prog 32 ((ou32 b ls).at l):=by
 apply wo32 (l:=l) (hl:=hl) (hnd:=hnd)
 all_goals (intro _; rfl)
theorem t32o (b:Book) (ls:List Int) (id:Nat):Triple Tryz.prog 32 (s32o b ls id):=to32 b ls _ rfl (by simp)
abbrev q3s (b:Book) (P:Prop):Prop:=SoundB b->P
abbrev q3t (b:Book) (x0:Nat) (P:Prop):Prop:=x0<=b.lines.length->P
abbrev q3u (b:Book) (x0:Nat) (P:Prop):Prop:=q3t b x0 (decide ((x0:Int) < (↑(b.lines.length):Int))=true->P)
abbrev q3v (b:Book) (x0:Nat) (P:Prop):Prop:=q3t b x0 (decide ((x0:Int) < (↑(b.lines.length):Int))=false->P)
theorem wo77 (b:Book)
 (o0:q3s b (0=(↑0:Int)))
 (o1:q3s b ((List.take 0 (lowsB b)).length=0))
 (o2:q3s b ((List.take 0 (highsB b)).length=0))
 (o3:q3s b (0<=List.length (Book.lines b)))
 (o4:q3s b (∀ (x0:Nat),q3u b x0 (0<=(x0:Int))))
 (o5:q3s b (∀ (x0:Nat),q3u b x0 ((x0:Int) < (↑(b.lines.length):Int))))
 (o6:q3s b (∀ (x0:Nat),q3u b x0 ((List.take x0 (lowsB b)).length + 1<=65536)))
 (o7:q3s b (∀ (x0:Nat),q3u b x0 ((List.take x0 (highsB b)).length + 1<=65536)))
 (o8:q3s b (∀ (x0:Nat),q3u b x0 (inI ((x0:Int) + 1))))
 (o9:q3s b (∀ (x0:Nat),q3u b x0 ((x0:Int) + 1=(↑(x0 + 1):Int))))
 (o10:q3s b (∀ (x0:Nat),q3u b x0 ((List.take x0 (lowsB b)).length + 1=(List.take (x0 + 1) (lowsB b)).length)))
 (o11:q3s b (∀ (x0:Nat),q3u b x0 (∀ (i2:Nat),i2 < (List.take x0 (lowsB b)).length + 1->catF (List.take x0 (lowsB b)).length (fun (i:Nat)=>[iv ((List.take x0 (lowsB b)).getD i 0)]) (fun (j:Nat)=>List.getD [[iv (lnB b x0).lo]] j (TI.za ti3)) i2 = [iv ((List.take (x0 + 1) (lowsB b)).getD i2 0)])))
 (o12:q3s b (∀ (x0:Nat),q3u b x0 ((List.take x0 (highsB b)).length + 1=(List.take (x0 + 1) (highsB b)).length)))
 (o13:q3s b (∀ (x0:Nat),q3u b x0 (∀ (i4:Nat),i4 < (List.take x0 (highsB b)).length + 1->catF (List.take x0 (highsB b)).length (fun (i:Nat)=>[iv ((List.take x0 (highsB b)).getD i 0)]) (fun (j:Nat)=>List.getD [[iv (lnB b x0).hi]] j (TI.za ti3)) i4 = [iv ((List.take (x0 + 1) (highsB b)).getD i4 0)])))
 (o14:q3s b (∀ (x0:Nat),q3u b x0 (x0 + 1<=b.lines.length)))
 (o15:q3s b (∀ (x0:Nat),q3u b x0 (b.lines.length - (x0 + 1) < b.lines.length - x0)))
 (o16:q3s b (∀ (x0:Nat),q3v b x0 ((List.take x0 (lowsB b)).length=(lowsB b).length)))
 (o17:q3s b (∀ (x0:Nat),q3v b x0 (∀ (i6:Nat),i6 < (List.take x0 (lowsB b)).length -> [iv ((List.take x0 (lowsB b)).getD i6 0)] = [iv ((lowsB b).getD i6 0)])))
 (o18:q3s b (∀ (x0:Nat),q3v b x0 ((List.take x0 (highsB b)).length=(highsB b).length)))
 (o19:q3s b (∀ (x0:Nat),q3v b x0 (∀ (i8:Nat),i8 < (List.take x0 (highsB b)).length -> [iv ((List.take x0 (highsB b)).getD i8 0)] = [iv ((highsB b).getD i8 0)])))
  (l:List (Nat × Nat)) (hl:l.map (·.1)=(OutSpec.hout (ou77 b)).map (·.1)) (hnd:(l.map (·.2)).Nodup) :
  Triple Tryz.prog 77 (OutSpec.at (ou77 b) l):=by
 refine triple_out Tryz.func77 rfl Tryz.call77 T0_ok _ _ _ _ l rfl (Nat.le_of_ble_eq_true (by kernel_rfl)) hl hnd (by kernel_rfl) (by kernel_rfl) (by kernel_rfl) ?_
 intro hpre C hC hE
 obtain ⟨P,w0,E0,av,hA,ro,df⟩:=C
 obtain ⟨rfl,rfl,rfl⟩:=hC
 refine swp_seq ?_
 refine zR [0,2,3] [] (Ak 2 tv) ?_
 refine swp_seq ?_
 refine swp_seq ?_
 refine zR [2,3,10,11,12] [] (Ak 7 tv) ?_
 refine swp_block ?_
 refine zL (Hint.ann (h77 b) [(10,AV.sl 2 b.lines.length fun (i:Nat)=>cSpan (lnB b i)),(11,iv (↑(b.lines.length):Int))] [] 10072) (zE hE [] [(5000,.nil),(5001,.nil)] [10,11] [] (An (An (An (zr (AV.sl 2 b.lines.length fun (i:Nat)=>cSpan (lnB b i))) (zr true)) (An (An (zr (iv (↑(b.lines.length):Int))) (zr true)) (An (zr (some Src.nil)) (An (zr (some Src.nil)) (An (An (ci (o0 hpre)) (zr nilN)) tv))))) (An (An (o1 hpre) (An (o2 hpre) tv)) (An (zr true) (zr true))))) (o3 hpre) (fun (x0:Nat) hx0 => ?_)
 refine swp_seq ?_
 refine zR [10,11,2,3,12,13] [5000,5001] (Ak 1 tv) ?_
 refine swp_seq ?_
 refine zI (decide ((x0:Int) < (↑(b.lines.length):Int))) (fun y1 => ?_) (fun y1 => ?_)
 ·refine swp_skip ?_
  refine swp_seq ?_
  refine swp_block ?_
  refine swp_seq ?_
  refine zR [10,11,2,3,12,5] [5000,5001,10096] (An (An (o4 hpre x0 hx0 y1) (o5 hpre x0 hx0 y1)) (Ak 3 tv)) ?_
  refine zR [10,11,2,3,12] [10144,10184] (Ak 4 (An (o6 hpre x0 hx0 y1) (Ak 4 (An (o7 hpre x0 hx0 y1) (Ak 2 tv))))) ?_
  refine zR [10,11,2,3,12] [10144,10184] (An (o8 hpre x0 hx0 y1) (Ak 1 tv)) ?_
  exact zn (zE hE [] [(5000,.same 10144),(5001,.same 10184)] [10,11] [] (An (An (An (zr (AV.sl 2 b.lines.length fun (i:Nat)=>cSpan (lnB b i))) (zr true)) (An (An (zr (iv (↑(b.lines.length):Int))) (zr true)) (An (zr (some (Src.same 10144))) (An (zr (some (Src.same 10184))) (An (An (ci (o9 hpre x0 hx0 y1)) (zr nilN)) tv))))) (An (An (An (zr 3) (An (zr 1) (An (o10 hpre x0 hx0 y1) (fun (i2:Nat)=>(fun (y3:i2 < (List.take x0 (lowsB b)).length + 1)=>(o11 hpre x0 hx0 y1 i2 y3)))))) (An (An (zr 3) (An (zr 1) (An (o12 hpre x0 hx0 y1) (fun (i4:Nat)=>(fun (y5:i4 < (List.take x0 (highsB b)).length + 1)=>(o13 hpre x0 hx0 y1 i4 y5)))))) tv)) (An (zr true) (zr true))))) (o14 hpre x0 hx0 y1) (o15 hpre x0 hx0 y1)
 ·refine swp_exit ?_
  refine swp_seq ?_
  refine zR [2,3] [5000,5001] (Ak 4 tv) ?_
  refine swp_ret ?_
  exact zO (ASt.mk [(2,AV.vec 0),(3,AV.vec 1)] [(0,OB.vec 3 1 (lowsB b).length fun (i:Nat)=>[iv ((lowsB b).getD i 0)]),(1,OB.vec 3 1 (highsB b).length fun (i:Nat)=>[iv ((highsB b).getD i 0)])] 100) (zE hE [] [(0,.same 5000),(1,.same 5001)] [] [] (An (An (zr (some (Src.same 5000))) (An (zr (some (Src.same 5001))) tv)) (An (An (An (zr 3) (An (zr 1) (An (o16 hpre x0 hx0 y1) (fun (i6:Nat)=>(fun (y7:i6 < (List.take x0 (lowsB b)).length)=>(o17 hpre x0 hx0 y1 i6 y7)))))) (An (An (zr 3) (An (zr 1) (An (o18 hpre x0 hx0 y1) (fun (i8:Nat)=>(fun (y9:i8 < (List.take x0 (highsB b)).length)=>(o19 hpre x0 hx0 y1 i8 y9)))))) tv)) (An (zr true) (zr true))))) (An (Ak 2 tv) (An (zr (AV.tup [AV.vec 0,AV.vec 1])) (An (zr (some (OB.vec 3 1 (lowsB b).length fun (i:Nat)=>[iv ((lowsB b).getD i 0)]))) (An (zr (some (OB.vec 3 1 (highsB b).length fun (i:Nat)=>[iv ((highsB b).getD i 0)]))) tv))))
theorem lows_len (b:Book):(lowsB b).length=b.lines.length:=by simp [lowsB]
theorem highs_len (b:Book):(highsB b).length=b.lines.length:=by simp [highsB]
theorem to77 (b:Book) (l:List (Nat × Nat)) (hl:l.map (·.1) = [0,1]) (hnd:(l.map (·.2)).Nodup):Triple Tryz.prog 77 ((ou77 b).at l):=by
 apply wo77 (l:=l) (hl:=hl) (hnd:=hnd)
 all_goals (try delta q3s q3t q3u q3v)
 all_goals (intro hs; have hln:=hs.lines)
 case o1 | o2=>all_goals rfl
 case o3=>omega
 case o0=>rfl
 all_goals (intro x hx hxl; simp only [decide_eq_true_eq,decide_eq_false_iff_not] at hxl)
 case o6 | o7=>all_goals (rw [List.length_take]; omega)
 case o10=>rw [List.length_take,List.length_take,lows_len]; omega
 case o12=>rw [List.length_take,List.length_take,highs_len]; omega
 case o11 =>
  rw [take_succ _ 0 (by rw [lows_len]; omega)]
  exact snoc_cat 0 (fun n=>[iv n]) _ _ (by rw [lows_get (by omega)]; rfl)
 case o13 =>
  rw [take_succ _ 0 (by rw [highs_len]; omega)]
  exact snoc_cat 0 (fun n=>[iv n]) _ _ (by rw [highs_get (by omega)]; rfl)
 case o16=>rw [List.take_of_length_le (by rw [lows_len]; omega)]
 case o18=>rw [List.take_of_length_le (by rw [highs_len]; omega)]
 case o17=>rw [List.take_of_length_le (by rw [lows_len]; omega)]; intro i _; rfl
 case o19=>rw [List.take_of_length_le (by rw [highs_len]; omega)]; intro i _; rfl
 all_goals (first | omega | rfl | (simp only [inI]; omega))
theorem t77o (b:Book) (id:Nat):Triple Tryz.prog 77 (s77o b id):=to77 b _ rfl (by simp)
theorem w44 (b:Book)
  (o0:SoundB b->GoodLn b (lowsB b))
  (o1:SoundB b->GoodLn b (highsB b))
  (o2:SoundB b->(bestB b (lowsB b)).2=(owedB b).lo)
  (o3:SoundB b->(bestB b (highsB b)).2=(owedB b).hi) :
  Triple Tryz.prog 44 (s44 b):=by
 refine triple_of Tryz.func44 rfl Tryz.call44 T0_ok _ rfl rfl rfl rfl (Nat.le_of_ble_eq_true (by kernel_rfl)) (fun _ _ _ _ h=>h) ?_
 intro hpre C hC _ hE
 obtain ⟨P,w0,E0,av,hA,ro,df⟩:=C
 obtain ⟨rfl,rfl,rfl⟩:=hC
 refine swp_seq ?_
 refine zR [0,2] [0] (Ak 1 tv) ?_
 refine swp_seq ?_
 refine zC ([(1,CallSpec.eq (c44e b 16) [true])]) [0,2,3,4] [0,16,17] (Ak 1 (An (An (An (zr (AV.rp (cWk b))) tv) (An (t77o (b) (16)) (An hpre (Ak 1 (fun (i0:Env)=>tv))))) (Ak 5 tv))) ?_
 refine swp_seq ?_
 refine zC ([(2,CallSpec.eq (c44l b 80) [true,false])]) [0,2,4,6] [0,17] (Ak 2 (An (An (An (zr (AV.rp (cWk b))) (An (An (zr 1) (An (zr (lowsB b).length) (fun (i1:Nat)=>(fun (y2:i1 < (lowsB b).length)=>(zr ([iv ((lowsB b).getD i1 0)])))))) tv)) (An (t32o (b) (lowsB b) (80)) (An (An hpre (o0 hpre)) (Ak 1 (fun (i3:Env)=>tv))))) (Ak 5 tv))) ?_
 refine swp_seq ?_
 refine zC ([(2,CallSpec.eq (c44h b 144) [true,false])]) [2,6,8] [0] (Ak 2 (An (An (An (zr (AV.rp (cWk b))) (An (An (zr 1) (An (zr (highsB b).length) (fun (i4:Nat)=>(fun (y5:i4 < (highsB b).length)=>(zr ([iv ((highsB b).getD i4 0)])))))) tv)) (An (t32o (b) (highsB b) (144)) (An (An hpre (o1 hpre)) (Ak 1 (fun (i6:Env)=>tv))))) (Ak 5 tv))) ?_
 refine swp_seq ?_
 refine zR [2] [0] (Ak 4 tv) ?_
 refine swp_ret ?_
 exact zT [] (An (Ak 1 tv) (An (An (An (ci (o2 hpre)) (zr nilN)) (An (An (ci (o3 hpre)) (zr nilN)) tv)) (An (zr true) (An (zr true) (zr true)))))
theorem t44 (b:Book):Triple Tryz.prog 44 (s44 b):=by
 apply w44
 all_goals (intro hs)
 case o0=>exact lows_good hs
 case o1=>exact highs_good hs
 all_goals rfl
theorem w69 (y:Int)
  (o0:decide (y = -1)=isSgl y) :
  Triple Tryz.prog 69 (s69 y):=by
 refine triple_of Tryz.func69 rfl Tryz.call69 T0_ok _ rfl rfl rfl rfl (Nat.le_of_ble_eq_true (by kernel_rfl)) (fun _ _ _ _ h=>h) ?_
 intro _ C hC _ hE
 obtain ⟨P,w0,E0,av,hA,ro,df⟩:=C
 obtain ⟨rfl,rfl,rfl⟩:=hC
 refine swp_seq ?_
 refine zR [0] [] (Ak 1 tv) ?_
 refine swp_seq ?_
 refine zR [2] [] (Ak 3 tv) ?_
 refine swp_ret ?_
 exact zT [] (An (Ak 1 tv) (An (An (cb (o0)) (zr nilN)) (An (zr true) (An (zr true) (zr true)))))
theorem t69 (y:Int):Triple Tryz.prog 69 (s69 y):=by
 apply w69
 rfl
abbrev q3w (ws:List Int) (P:Prop):Prop:=ws.length<=65536->P
abbrev q3x (ws:List Int) (x0:Nat) (P:Prop):Prop:=(x0<=ws.length /\ ∀ (j:Nat),j < x0->isSgl (ws.getD j 0)=false)->P
abbrev q3y (ws:List Int) (x0:Nat) (P:Prop):Prop:=q3x ws x0 (decide ((x0:Int) < (↑(ws.length):Int))=true->P)
theorem wio83b (ws:List Int)
 (o0:List.length ws<=65536->0=(↑0:Int))
 (o1:q3w ws (0<=ws.length /\ ∀ (j:Nat),j < 0->isSgl (ws.getD j 0)=false))
 (o2:q3w ws (∀ (x0:Nat),q3y ws x0 (0<=(x0:Int))))
 (o3:q3w ws (∀ (x0:Nat),q3y ws x0 ((x0:Int) < (↑(ws.length):Int))))
 (o4:q3w ws (∀ (x0:Nat),q3y ws x0 (x0 < ws.length)))
 (o5:q3w ws (∀ (x0:Nat),q3y ws x0 (isSgl (ws.getD x0 0)=true->(x0:Int)=idxW ws isSgl)))
 (o6:q3w ws (∀ (x0:Nat),q3y ws x0 (isSgl (ws.getD x0 0)=false->inI ((x0:Int) + 1))))
 (o7:q3w ws (∀ (x0:Nat),q3y ws x0 (isSgl (ws.getD x0 0)=false->(x0:Int) + 1=(↑(x0 + 1):Int))))
 (o8:q3w ws (∀ (x0:Nat),q3y ws x0 (isSgl (ws.getD x0 0)=false->x0 + 1<=ws.length /\ ∀ (j:Nat),j < x0 + 1->isSgl (ws.getD j 0)=false)))
 (o9:q3w ws (∀ (x0:Nat),q3y ws x0 (isSgl (ws.getD x0 0)=false->ws.length - (x0 + 1) < ws.length - x0)))
 (o10:q3w ws (∀ (x0:Nat),q3x ws x0 (decide ((x0:Int) < (↑(ws.length):Int))=false -> -1=idxW ws isSgl)))
  (l:List (Nat × Nat)) (hl:l.map (·.1) = [0]) (hnd:(l.map (·.2)).Nodup) :
  Triple Tryz.prog 83 (IoSpec.at (io83b ws) l):=by
 refine triple_io Tryz.func83 rfl Tryz.call83 T0_ok (io83b ws) 1 l (by rw [hl]; kernel_rfl) hnd (Nat.le_of_ble_eq_true (by kernel_rfl)) (fun _ _ _ _ h=>h) ?_
 intro hpre C hC _ hE
 obtain ⟨P,w0,E0,av,hA,ro,df⟩:=C
 obtain ⟨rfl,rfl,rfl⟩:=hC
 refine swp_seq ?_
 refine zR [0,1] [0] (Ak 1 tv) ?_
 refine swp_seq ?_
 refine swp_seq ?_
 refine zR [0,1,7,8] [0] (Ak 3 tv) ?_
 refine swp_block ?_
 refine zL (Hint.ann (h83b ws) [(0,AV.vec 0),(1,AV.clo 69 []),(7,iv (↑(ws.length):Int))] [(0,OB.vec 3 1 ws.length fun (i:Nat)=>[iv (ws.getD i 0)])] 10033) (zEn 1 hE [] [(0,.same 0)] [1,7] [0] (An (An (zr (some (Src.same 0))) (An (An (zr (AV.clo 69 [])) (zr true)) (An (An (zr (iv (↑(ws.length):Int))) (zr true)) (An (An (ci (o0 hpre)) (zr nilN)) tv)))) (An (An (An (zr (OB.vec 3 1 ws.length fun (i:Nat)=>[iv (ws.getD i 0)])) (zr true)) tv) (An (zr true) (zr true))))) (o1 hpre) (fun (x0:Nat) hx0 => ?_)
 refine swp_seq ?_
 refine zR [0,1,7,8,9] [0] (Ak 1 tv) ?_
 refine swp_seq ?_
 refine zI (decide ((x0:Int) < (↑(ws.length):Int))) (fun y1 => ?_) (fun y1 => ?_)
 ·refine swp_skip ?_
  refine swp_seq ?_
  refine swp_block ?_
  refine swp_seq ?_
  refine zR [0,1,7,8,5] [0] (Ak 2 tv) ?_
  refine swp_seq ?_
  refine zC ([(5,CallSpec.eq (s69 (ws.getD x0 0)) [true])]) [0,1,7,8,5,16] [0] (Ak 3 (An (An (o2 hpre x0 hx0 y1) (o3 hpre x0 hx0 y1)) (An (An (o4 hpre x0 hx0 y1) tv) (An (An (An (zr (iv (ws.getD x0 0))) tv) (An (t69 (ws.getD x0 0)) (Ak 2 (fun (i2:Env)=>tv)))) tv)))) ?_
  refine zI (isSgl (ws.getD x0 0)) (fun y3 => ?_) (fun y3 => ?_)
  ·refine swp_seq ?_
   refine zR [4] [0] (Ak 2 tv) ?_
   refine swp_ret ?_
   exact zO (ASt.mk [(4,iv (idxW ws isSgl))] [(0,OB.vec 3 1 ws.length fun (i:Nat)=>[iv (ws.getD i 0)])] 100) (zEn 1 hE [] [(0,.same 0)] [] [0] (An (An (An (ci (o5 hpre x0 hx0 y1 y3)) (zr nilN)) tv) (An (An (An (zr (OB.vec 3 1 ws.length fun (i:Nat)=>[iv (ws.getD i 0)])) (zr true)) tv) (An (zr true) (zr true))))) (An (Ak 1 tv) (An (zr (iv (idxW ws isSgl))) (An (zr (some (OB.vec 3 1 ws.length fun (i:Nat)=>[iv (ws.getD i 0)]))) tv)))
  ·refine swp_skip ?_
   refine zR [0,1,7,8] [0] (An (o6 hpre x0 hx0 y1 y3) (Ak 1 tv)) ?_
   exact zn (zEn 1 hE [] [(0,.same 0)] [1,7] [0] (An (An (zr (some (Src.same 0))) (An (An (zr (AV.clo 69 [])) (zr true)) (An (An (zr (iv (↑(ws.length):Int))) (zr true)) (An (An (ci (o7 hpre x0 hx0 y1 y3)) (zr nilN)) tv)))) (An (An (An (zr (OB.vec 3 1 ws.length fun (i:Nat)=>[iv (ws.getD i 0)])) (zr true)) tv) (An (zr true) (zr true))))) (o8 hpre x0 hx0 y1 y3) (o9 hpre x0 hx0 y1 y3)
 ·refine swp_exit ?_
  refine swp_seq ?_
  refine zR [4] [0] (Ak 1 tv) ?_
  refine swp_ret ?_
  exact zO (ASt.mk [(4,iv (idxW ws isSgl))] [(0,OB.vec 3 1 ws.length fun (i:Nat)=>[iv (ws.getD i 0)])] 100) (zEn 1 hE [] [(0,.same 0)] [] [0] (An (An (An (ci (o10 hpre x0 hx0 y1)) (zr nilN)) tv) (An (An (An (zr (OB.vec 3 1 ws.length fun (i:Nat)=>[iv (ws.getD i 0)])) (zr true)) tv) (An (zr true) (zr true))))) (An (Ak 1 tv) (An (zr (iv (idxW ws isSgl))) (An (zr (some (OB.vec 3 1 ws.length fun (i:Nat)=>[iv (ws.getD i 0)]))) tv)))
theorem t83b (b:Nat) (ws:List Int):Triple Tryz.prog 83 (s83b b ws):=by
 apply wio83b ws (l:=[(0,b)]) (hl:=rfl) (hnd:=by simp)
 all_goals (try delta q3w q3x q3y)
 case o1=>intro _; exact ⟨Nat.zero_le _,fun j hj=>absurd hj (Nat.not_lt_zero j)⟩
 case o5=>intro hp x hx hl h; simp only [decide_eq_true_eq] at hl; exact (idxW_found (by omega) hx.2 h).symm
 case o8=>intro hp x hx hl h; simp only [decide_eq_true_eq] at hl; exact ⟨by omega,lt_succ_cases hx.2 h⟩
 case o10=>intro hp x hx hl; simp only [decide_eq_false_iff_not] at hl; exact (idxW_none (fun j hj=>hx.2 j (by omega))).symm
 all_goals (try ((repeat intro _) <;> (try simp only [Bool.cond_true_left,Bool.cond_false_right,Bool.not_not,Bool.not_eq_true',Bool.not_eq_false',Bool.or_eq_true,Bool.or_eq_false_iff,Bool.and_eq_true,decide_eq_true_eq,decide_eq_false_iff_not,inI,big] at *) <;> first | (exact rfl) | omega | (exact ⟨Nat.zero_le _,fun j hj=>absurd hj (Nat.not_lt_zero j)⟩) | (simp_all; done) | (simp_all; omega)))
abbrev q3z (ws:List Int) (P:Prop):Prop:=ws.length<=65536->P
abbrev q40 (ws:List Int) (P:Prop):Prop:=q3z ws (decide (idxW ws isSgl = -1)=false->P)
abbrev q41 (ws:List Int) (x4:Nat) (P:Prop):Prop:=firstD ws isSgl + 1<=x4/\x4<=ws.length->P
abbrev q42 (ws:List Int) (x4:Nat) (P:Prop):Prop:=q41 ws x4 (decide ((x4:Int) < (↑(ws.length):Int))=true->P)
abbrev q43 (ws:List Int) (x4:Nat) (P:Prop):Prop:=q42 ws x4 ((!isSgl (rowW ws isSgl x4 x4))=true->P)
abbrev q44 (ws:List Int) (x4:Nat) (P:Prop):Prop:=q42 ws x4 ((!isSgl (rowW ws isSgl x4 x4))=false->P)
abbrev q45 (ws:List Int) (x4:Nat) (P:Prop):Prop:=q41 ws x4 (decide ((x4:Int) < (↑(ws.length):Int))=false->P)
theorem wio68b (ws:List Int)
 (o0:q3z ws (decide (idxW ws isSgl = -1)=true->ws.length=(delW ws isSgl).length))
 (o1:q3z ws (decide (idxW ws isSgl = -1)=true -> ∀ (i2:Nat),i2 < ws.length -> [iv (ws.getD i2 0)] = [iv ((delW ws isSgl).getD i2 0)]))
 (o2:q40 ws (inI (idxW ws isSgl + 1)))
 (o3:q40 ws (idxW ws isSgl=(↑((keptW ws isSgl (Nat.succ (Nat.add (firstD ws isSgl) 0))).length):Int)))
 (o4:q40 ws (idxW ws isSgl + 1=(↑(Nat.succ (Nat.add (firstD ws isSgl) 0)):Int)))
 (o5:q40 ws (∀ (i5:Nat),i5 < ws.length -> [iv (ws.getD i5 0)] = [iv (rowW ws isSgl (Nat.succ (Nat.add (firstD ws isSgl) 0)) i5)]))
 (o6:q40 ws (firstD ws isSgl + 1<=Nat.succ (Nat.add (firstD ws isSgl) 0)/\Nat.succ (Nat.add (firstD ws isSgl) 0)<=ws.length))
 (o7:q40 ws (∀ (x4:Nat),q42 ws x4 (0<=(x4:Int))))
 (o8:q40 ws (∀ (x4:Nat),q42 ws x4 ((x4:Int) < (↑(ws.length):Int))))
 (o9:q40 ws (∀ (x4:Nat),q42 ws x4 (x4 < ws.length)))
 (o10:q40 ws (∀ (x4:Nat),q43 ws x4 (0<=(↑((keptW ws isSgl x4).length):Int))))
 (o11:q40 ws (∀ (x4:Nat),q43 ws x4 ((↑((keptW ws isSgl x4).length):Int) < (↑(ws.length):Int))))
 (o12:q40 ws (∀ (x4:Nat),q43 ws x4 ((keptW ws isSgl x4).length < ws.length)))
 (o13:q40 ws (∀ (x4:Nat),q43 ws x4 (inI ((↑((keptW ws isSgl x4).length):Int) + 1))))
 (o14:q40 ws (∀ (x4:Nat),q43 ws x4 (inI ((x4:Int) + 1))))
 (o15:q40 ws (∀ (x4:Nat),q43 ws x4 ((↑((keptW ws isSgl x4).length):Int) + 1=(↑((keptW ws isSgl (x4 + 1)).length):Int))))
 (o16:q40 ws (∀ (x4:Nat),q43 ws x4 ((x4:Int) + 1=(↑(x4 + 1):Int))))
 (o17:q40 ws (∀ (x4:Nat),q43 ws x4 (∀ (i10:Nat),i10 < ws.length->Decidable.rec (fun (h:¬i10=(keptW ws isSgl x4).length)=>[iv (rowW ws isSgl x4 i10)]) (fun (h:i10=(keptW ws isSgl x4).length)=>[iv (rowW ws isSgl x4 x4)] ++ []) (instDecidableEqNat i10 (keptW ws isSgl x4).length) = [iv (rowW ws isSgl (x4 + 1) i10)])))
 (o18:q40 ws (∀ (x4:Nat),q43 ws x4 (firstD ws isSgl + 1<=x4 + 1/\x4 + 1<=ws.length)))
 (o19:q40 ws (∀ (x4:Nat),q43 ws x4 (ws.length - (x4 + 1) < ws.length - x4)))
 (o20:q40 ws (∀ (x4:Nat),q44 ws x4 (inI ((x4:Int) + 1))))
 (o21:q40 ws (∀ (x4:Nat),q44 ws x4 ((↑((keptW ws isSgl x4).length):Int)=(↑((keptW ws isSgl (x4 + 1)).length):Int))))
 (o22:q40 ws (∀ (x4:Nat),q44 ws x4 ((x4:Int) + 1=(↑(x4 + 1):Int))))
 (o23:q40 ws (∀ (x4:Nat),q44 ws x4 (∀ (i12:Nat),i12 < ws.length -> [iv (rowW ws isSgl x4 i12)] = [iv (rowW ws isSgl (x4 + 1) i12)])))
 (o24:q40 ws (∀ (x4:Nat),q44 ws x4 (firstD ws isSgl + 1<=x4 + 1/\x4 + 1<=ws.length)))
 (o25:q40 ws (∀ (x4:Nat),q44 ws x4 (ws.length - (x4 + 1) < ws.length - x4)))
 (o26:q40 ws (∀ (x4:Nat),q45 ws x4 (0<=(↑((keptW ws isSgl x4).length):Int))))
 (o27:q40 ws (∀ (x4:Nat),q45 ws x4 ((↑((keptW ws isSgl x4).length):Int) < (↑(ws.length):Int))))
 (o28:q40 ws (∀ (x4:Nat),q45 ws x4 ((keptW ws isSgl x4).length + (ws.length - (keptW ws isSgl x4).length)=ws.length)))
 (o29:q40 ws (∀ (x4:Nat),q45 ws x4 (0 < ws.length - (keptW ws isSgl x4).length)))
 (o30:q40 ws (∀ (x4:Nat),q45 ws x4 (∀ (i14:Nat),i14 < ws.length->Decidable.rec (fun (h:¬i14 < (keptW ws isSgl x4).length)=>[iv 0]) (fun (h:i14 < (keptW ws isSgl x4).length)=>[iv (rowW ws isSgl x4 i14)]) (Nat.decLt i14 (keptW ws isSgl x4).length) = [iv (endD ws i14)])))
 (o31:q40 ws (∀ (x4:Nat),q45 ws x4 (0<=(↑((keptW ws isSgl x4).length):Int))))
 (o32:q40 ws (∀ (x4:Nat),q45 ws x4 ((↑((keptW ws isSgl x4).length):Int)<=(↑(ws.length):Int))))
 (o33:q40 ws (∀ (x4:Nat),q45 ws x4 ((keptW ws isSgl x4).length=(delW ws isSgl).length)))
 (o34:q40 ws (∀ (x4:Nat),q45 ws x4 (∀ (i16:Nat),i16 < (keptW ws isSgl x4).length -> [iv (endD ws i16)] = [iv ((delW ws isSgl).getD i16 0)])))
  (l:List (Nat × Nat)) (hl:l.map (·.1) = [0,3]) (hnd:(l.map (·.2)).Nodup) :
  Triple Tryz.prog 68 (IoSpec.at (io68b ws) l):=by
 refine triple_io Tryz.func68 rfl Tryz.call68 T0_ok (io68b ws) 2 l (by rw [hl]; kernel_rfl) hnd (Nat.le_of_ble_eq_true (by kernel_rfl)) (fun _ _ _ _ h=>h) ?_
 intro hpre C hC _ hE
 obtain ⟨P,w0,E0,av,hA,ro,df⟩:=C
 obtain ⟨rfl,rfl,rfl⟩:=hC
 refine swp_seq ?_
 refine zR [0,1] [0] (Ak 1 tv) ?_
 refine swp_seq ?_
 refine zC ([(2,CallSpec.eq (c68b ws) [true,true])]) [0,1,5] [0] (Ak 2 (An (An (An (zr (AV.vec 0)) (An (zr (AV.clo 69 [])) tv)) (An (t83b (0) (ws)) (An hpre (An (An (zr (some (OB.vec 3 1 ws.length fun (i:Nat)=>[iv (ws.getD i 0)]))) tv) (fun (i0:Env)=>tv))))) (Ak 1 tv))) ?_
 refine swp_seq ?_
 refine swp_seq ?_
 refine zR [0,1,5,12] [0] (Ak 2 tv) ?_
 refine zI (decide (idxW ws isSgl = -1)) (fun y1 => ?_) (fun y1 => ?_)
 ·refine swp_seq ?_
  refine zR [4] [0] (Ak 2 tv) ?_
  refine swp_ret ?_
  exact zO (ASt.mk [(4,AV.vec 3)] [(3,OB.vec 3 1 (delW ws isSgl).length fun (i:Nat)=>[iv ((delW ws isSgl).getD i 0)])] 100) (zEn 2 hE [] [(3,.same 0)] [] [] (An (An (zr (some (Src.same 0))) tv) (An (An (An (zr 3) (An (zr 1) (An (o0 hpre y1) (fun (i2:Nat)=>(fun (y3:i2 < ws.length)=>(o1 hpre y1 i2 y3)))))) tv) (An (zr true) (zr true))))) (An (Ak 1 tv) (An (zr (AV.vec 3)) (An (zr (some (OB.vec 3 1 (delW ws isSgl).length fun (i:Nat)=>[iv ((delW ws isSgl).getD i 0)]))) tv)))
 ·refine swp_skip ?_
  refine swp_seq ?_
  refine swp_seq ?_
  refine zR [0,1,5,6] [0] (Ak 1 (An (o2 hpre y1) (Ak 1 tv))) ?_
  refine swp_block ?_
  refine zL (Hint.ann (h68b ws) [(0,AV.vec 0),(1,AV.clo 69 [])] [] 10082) (zEn 2 hE [] [(0,.same 0)] [1] [] (An (An (zr (some (Src.same 0))) (An (An (zr (AV.clo 69 [])) (zr true)) (An (An (ci (o3 hpre y1)) (zr nilN)) (An (An (ci (o4 hpre y1)) (zr nilN)) tv)))) (An (An (An (zr 3) (An (zr 1) (An (zr ws.length) (fun (i5:Nat)=>(fun (y6:i5 < ws.length)=>(o5 hpre y1 i5 y6)))))) tv) (An (zr true) (zr true))))) (o6 hpre y1) (fun (x4:Nat) hx4 => ?_)
  refine swp_seq ?_
  refine swp_seq ?_
  refine zR [0,1,5,6,19] [0] (Ak 4 tv) ?_
  refine zI (decide ((x4:Int) < (↑(ws.length):Int))) (fun y7 => ?_) (fun y7 => ?_)
  ·refine swp_skip ?_
   refine swp_seq ?_
   refine swp_block ?_
   refine swp_seq ?_
   refine zR [0,1,5,6,7] [0] (Ak 2 (An (An (o7 hpre y1 x4 hx4 y7) (o8 hpre y1 x4 hx4 y7)) (An (An (o9 hpre y1 x4 hx4 y7) tv) (Ak 1 tv)))) ?_
   refine swp_seq ?_
   refine zC ([(2,CallSpec.eq (s69 (rowW ws isSgl x4 x4)) [true])]) [0,1,5,6,7,29] [0] (Ak 2 (An (An (An (zr (iv (rowW ws isSgl x4 x4))) tv) (An (t69 (rowW ws isSgl x4 x4)) (Ak 2 (fun (i8:Env)=>tv)))) (Ak 1 tv))) ?_
   refine zI (!isSgl (rowW ws isSgl x4 x4)) (fun y9 => ?_) (fun y9 => ?_)
   ·refine swp_seq ?_
    refine zR [0,1,5,6] [0] (Ak 3 (An (An (o10 hpre y1 x4 hx4 y7 y9) (o11 hpre y1 x4 hx4 y7 y9)) (An (An (o12 hpre y1 x4 hx4 y7 y9) tv) tv))) ?_
    refine zR [0,1,5,6] [0] (Ak 1 (An (o13 hpre y1 x4 hx4 y7 y9) (Ak 1 tv))) ?_
    refine zR [0,1,5,6] [0] (Ak 1 (An (o14 hpre y1 x4 hx4 y7 y9) (Ak 1 tv))) ?_
    exact zn (zEn 2 hE [] [(0,.same 0)] [1] [] (An (An (zr (some (Src.same 0))) (An (An (zr (AV.clo 69 [])) (zr true)) (An (An (ci (o15 hpre y1 x4 hx4 y7 y9)) (zr nilN)) (An (An (ci (o16 hpre y1 x4 hx4 y7 y9)) (zr nilN)) tv)))) (An (An (An (zr 3) (An (zr 1) (An (zr ws.length) (fun (i10:Nat)=>(fun (y11:i10 < ws.length)=>(o17 hpre y1 x4 hx4 y7 y9 i10 y11)))))) tv) (An (zr true) (zr true))))) (o18 hpre y1 x4 hx4 y7 y9) (o19 hpre y1 x4 hx4 y7 y9)
   ·refine swp_skip ?_
    refine zR [0,1,5,6] [0] (Ak 1 (An (o20 hpre y1 x4 hx4 y7 y9) (Ak 1 tv))) ?_
    exact zn (zEn 2 hE [] [(0,.same 0)] [1] [] (An (An (zr (some (Src.same 0))) (An (An (zr (AV.clo 69 [])) (zr true)) (An (An (ci (o21 hpre y1 x4 hx4 y7 y9)) (zr nilN)) (An (An (ci (o22 hpre y1 x4 hx4 y7 y9)) (zr nilN)) tv)))) (An (An (An (zr 3) (An (zr 1) (An (zr ws.length) (fun (i12:Nat)=>(fun (y13:i12 < ws.length)=>(o23 hpre y1 x4 hx4 y7 y9 i12 y13)))))) tv) (An (zr true) (zr true))))) (o24 hpre y1 x4 hx4 y7 y9) (o25 hpre y1 x4 hx4 y7 y9)
  ·refine swp_exit ?_
   refine swp_seq ?_
   refine zR [0,5] [0] (Ak 2 (An (An (o26 hpre y1 x4 hx4 y7) (o27 hpre y1 x4 hx4 y7)) (An (An (o28 hpre y1 x4 hx4 y7) (o29 hpre y1 x4 hx4 y7)) tv))) ?_
   refine swp_seq ?_
   refine swp_ent (zEn (st2:=ASt.mk [(0,AV.vec 0),(5,iv (↑((keptW ws isSgl x4).length):Int))] [(0,OB.vec 3 1 ws.length fun (q:Nat)=>[iv (endD ws q)])] 10146) 2 hE [] [(0,.same 0)] [5] [] (An (An (zr (some (Src.same 0))) (An (An (zr (iv (↑((keptW ws isSgl x4).length):Int))) (zr true)) tv)) (An (An (An (zr 3) (An (zr 1) (An (zr ws.length) (fun (i14:Nat)=>(fun (y15:i14 < ws.length)=>(o30 hpre y1 x4 hx4 y7 i14 y15)))))) tv) (An (zr true) (zr true))))) ?_
   refine zC ([(2,focB8)]) [4] [10162] (Ak 2 (An (An (o31 hpre y1 x4 hx4 y7) (o32 hpre y1 x4 hx4 y7)) (Ak 1 tv))) ?_
   refine swp_ret ?_
   exact zO (ASt.mk [(4,AV.vec 3)] [(3,OB.vec 3 1 (delW ws isSgl).length fun (i:Nat)=>[iv ((delW ws isSgl).getD i 0)])] 100) (zEn 2 hE [] [(3,.same 10162)] [] [] (An (An (zr (some (Src.same 10162))) tv) (An (An (An (zr 3) (An (zr 1) (An (o33 hpre y1 x4 hx4 y7) (fun (i16:Nat)=>(fun (y17:i16 < (keptW ws isSgl x4).length)=>(o34 hpre y1 x4 hx4 y7 i16 y17)))))) tv) (An (zr true) (zr true))))) (An (Ak 1 tv) (An (zr (AV.vec 3)) (An (zr (some (OB.vec 3 1 (delW ws isSgl).length fun (i:Nat)=>[iv ((delW ws isSgl).getD i 0)]))) tv)))
theorem endD_lt {ws:List Int} {q:Nat} (h:q < (delW ws isSgl).length):endD ws q=(delW ws isSgl).getD q 0:=if_pos h
theorem endD_ge {ws:List Int} {q:Nat} (h:¬ q < (delW ws isSgl).length):endD ws q=0:=if_neg h
theorem t68b (b:Nat) (ws:List Int) (id:Nat) (hid:[b,id].Nodup:=by decide):Triple Tryz.prog 68 (s68b b ws id):=by
 apply wio68b ws (l:=[(0,b),(3,id)]) (hl:=rfl) (hnd:=hid)
 all_goals (try delta q3z q40 q41 q42 q43 q44 q45)
 all_goals (intro hp h)
 case o0=>rw [del_none h]
 case o1=>rw [del_none h]; intro i _; rfl
 all_goals (obtain ⟨f1,f2,f3,f4⟩:=first_spec h)
 case o2=>simp only [inI]; omega
 case o3=>show idxW ws isSgl=((keptW ws isSgl (firstD ws isSgl + 1)).length:Int); rw [(kept_first h).2]; exact f1
 case o4=>show idxW ws isSgl + 1=((firstD ws isSgl + 1:Nat):Int); omega
 case o5=>intro i _; show _ = [iv (rowW ws isSgl (firstD ws isSgl + 1) i)]; rw [rowW_first h]
 case o6=>show firstD ws isSgl + 1<=firstD ws isSgl + 1/\firstD ws isSgl + 1<=ws.length; omega
 all_goals (intro x hx hl; have hk:=kept_lt h x hx.1 hx.2; simp only [decide_eq_true_eq,decide_eq_false_iff_not] at hl)
 case o30 =>
  have e:x=ws.length:=by omega
  have hkf:keptW ws isSgl x=delW ws isSgl:=keptW_full (by omega)
  intro i hi
  rw [hkf]
  refine rec_lt8 (fun h=>by rw [endD_ge h]) (fun h => ?_)
  rw [endD_lt h]
  unfold rowW
  rw [hkf,if_pos h]
 case o33=>rw [keptW_full (by omega)]
 case o34=>intro i hi; rw [keptW_full (by omega)] at hi; rw [endD_lt hi]
 all_goals (try (first | omega | (simp only [inI]; omega)))
 all_goals (rw [rowW_self]; intro hn)
 case o15=>rw [keptW_f (by omega) (by simpa using hn),List.length_append]; rfl
 case o17 =>
  intro i hi
  rw [rowW_f (by omega) (by simpa using hn)]
  exact rec_ei8 (fun h=>by rw [if_neg h]) (fun h=>by rw [if_pos h]; rfl)
 case o21=>rw [keptW_t (by omega) (by simpa using hn)]
 case o23=>intro i hi; rw [rowW_t (by omega) (by simpa using hn)]
 all_goals (first | omega | (simp only [inI]; omega))
abbrev q46 (ws:List Int) (P:Prop):Prop:=ws.length<=65536->P
abbrev q47 (ws:List Int) (P:Prop):Prop:=q46 ws (decide ((↑(ws.length):Int) < 2)=false->P)
abbrev q48 (ws:List Int) (x3:Nat) (P:Prop):Prop:=(1<=x3/\x3<=ws.length /\ ∀ (j:Nat),j < x3->newAt 0 ws j=true)->P
abbrev q49 (ws:List Int) (x3:Nat) (P:Prop):Prop:=q48 ws x3 (decide ((x3:Int) < (↑(ws.length):Int))=true->P)
abbrev q4a (ws:List Int) (x3:Nat) (P:Prop):Prop:=q49 ws x3 (decide (ws.getD x3 0=ws.getD ((x3:Int) - 1).toNat 0)=true->P)
abbrev q4b (ws:List Int) (x3:Nat) (x6:Nat) (P:Prop):Prop:=1<=x6/\x3 + x6<=ws.length->P
abbrev q4c (ws:List Int) (x3:Nat) (x6:Nat) (P:Prop):Prop:=q4b ws x3 x6 (decide ((x6:Int) < (↑(ws.length - x3):Int))=true->P)
abbrev q4d (ws:List Int) (x3:Nat) (x6:Nat) (P:Prop):Prop:=q4c ws x3 x6 ((!decide (rowK 0 ws (x3 + x6) (x3 + x6)=rowK 0 ws (x3 + x6) (x3 + ((x6:Int) - 1).toNat)))=true->P)
abbrev q4e (ws:List Int) (x3:Nat) (x6:Nat) (P:Prop):Prop:=q4c ws x3 x6 ((!decide (rowK 0 ws (x3 + x6) (x3 + x6)=rowK 0 ws (x3 + x6) (x3 + ((x6:Int) - 1).toNat)))=false->P)
abbrev q4f (ws:List Int) (x3:Nat) (x6:Nat) (P:Prop):Prop:=q4b ws x3 x6 (decide ((x6:Int) < (↑(ws.length - x3):Int))=false->P)
abbrev q4g (ws:List Int) (x3:Nat) (P:Prop):Prop:=q49 ws x3 (decide (ws.getD x3 0=ws.getD ((x3:Int) - 1).toNat 0)=false->P)
theorem wio71 (ws:List Int)
 (o0:q46 ws (decide ((↑(ws.length):Int) < 2)=true->ws.length=(cpL 0 ws).length))
 (o1:q46 ws (decide ((↑(ws.length):Int) < 2)=true -> ∀ (i1:Nat),i1 < ws.length -> [iv (ws.getD i1 0)] = [iv ((cpL 0 ws).getD i1 0)]))
 (o2:q47 ws (1=(↑1:Int)))
 (o3:q47 ws (1<=1/\1<=ws.length /\ ∀ (j:Nat),j < 1->newAt 0 ws j=true))
 (o4:q47 ws (∀ (x3:Nat),q49 ws x3 (0<=(x3:Int))))
 (o5:q47 ws (∀ (x3:Nat),q49 ws x3 ((x3:Int) < (↑(ws.length):Int))))
 (o6:q47 ws (∀ (x3:Nat),q49 ws x3 (x3 < ws.length)))
 (o7:q47 ws (∀ (x3:Nat),q49 ws x3 (inI ((x3:Int) - 1))))
 (o8:q47 ws (∀ (x3:Nat),q49 ws x3 (0<=(x3:Int) - 1)))
 (o9:q47 ws (∀ (x3:Nat),q49 ws x3 ((x3:Int) - 1 < (↑(ws.length):Int))))
 (o10:q47 ws (∀ (x3:Nat),q49 ws x3 (((x3:Int) - 1).toNat < ws.length)))
 (o11:q47 ws (∀ (x3:Nat),q4a ws x3 (0<=(x3:Int))))
 (o12:q47 ws (∀ (x3:Nat),q4a ws x3 ((x3:Int) < (↑(ws.length):Int))))
 (o13:q47 ws (∀ (x3:Nat),q4a ws x3 ((x3:Int)=(↑((cpTo 0 ws (x3 + 1)).length):Int))))
 (o14:q47 ws (∀ (x3:Nat),q4a ws x3 (1=(↑1:Int))))
 (o15:q47 ws (∀ (x3:Nat),q4a ws x3 (∀ (i7:Nat),i7 < ws.length -> [iv (ws.getD i7 0)] = [iv (rowK 0 ws (x3 + 1) i7)])))
 (o16:q47 ws (∀ (x3:Nat),q4a ws x3 (1<=1/\x3 + 1<=ws.length)))
 (o17:q47 ws (∀ (x3:Nat),q4a ws x3 (∀ (x6:Nat),q4c ws x3 x6 (0<=(x6:Int)))))
 (o18:q47 ws (∀ (x3:Nat),q4a ws x3 (∀ (x6:Nat),q4c ws x3 x6 ((x6:Int) < (↑(ws.length - x3):Int)))))
 (o19:q47 ws (∀ (x3:Nat),q4a ws x3 (∀ (x6:Nat),q4c ws x3 x6 (x3 + (ws.length - x3)<=ws.length))))
 (o20:q47 ws (∀ (x3:Nat),q4a ws x3 (∀ (x6:Nat),q4c ws x3 x6 (x3 + x6 < ws.length))))
 (o21:q47 ws (∀ (x3:Nat),q4a ws x3 (∀ (x6:Nat),q4c ws x3 x6 (inI ((x6:Int) - 1)))))
 (o22:q47 ws (∀ (x3:Nat),q4a ws x3 (∀ (x6:Nat),q4c ws x3 x6 (0<=(x6:Int) - 1))))
 (o23:q47 ws (∀ (x3:Nat),q4a ws x3 (∀ (x6:Nat),q4c ws x3 x6 ((x6:Int) - 1 < (↑(ws.length - x3):Int)))))
 (o24:q47 ws (∀ (x3:Nat),q4a ws x3 (∀ (x6:Nat),q4c ws x3 x6 (x3 + (ws.length - x3)<=ws.length))))
 (o25:q47 ws (∀ (x3:Nat),q4a ws x3 (∀ (x6:Nat),q4c ws x3 x6 (x3 + ((x6:Int) - 1).toNat < ws.length))))
 (o26:q47 ws (∀ (x3:Nat),q4a ws x3 (∀ (x6:Nat),q4d ws x3 x6 (0<=(x6:Int)))))
 (o27:q47 ws (∀ (x3:Nat),q4a ws x3 (∀ (x6:Nat),q4d ws x3 x6 ((x6:Int) < (↑(ws.length - x3):Int)))))
 (o28:q47 ws (∀ (x3:Nat),q4a ws x3 (∀ (x6:Nat),q4d ws x3 x6 (x3 + (ws.length - x3)<=ws.length))))
 (o29:q47 ws (∀ (x3:Nat),q4a ws x3 (∀ (x6:Nat),q4d ws x3 x6 (x3 + x6 < ws.length))))
 (o30:q47 ws (∀ (x3:Nat),q4a ws x3 (∀ (x6:Nat),q4d ws x3 x6 (0<=(↑((cpTo 0 ws (x3 + x6)).length):Int)))))
 (o31:q47 ws (∀ (x3:Nat),q4a ws x3 (∀ (x6:Nat),q4d ws x3 x6 ((↑((cpTo 0 ws (x3 + x6)).length):Int) < (↑(ws.length):Int)))))
 (o32:q47 ws (∀ (x3:Nat),q4a ws x3 (∀ (x6:Nat),q4d ws x3 x6 ((cpTo 0 ws (x3 + x6)).length < ws.length))))
 (o33:q47 ws (∀ (x3:Nat),q4a ws x3 (∀ (x6:Nat),q4d ws x3 x6 (inI ((↑((cpTo 0 ws (x3 + x6)).length):Int) + 1)))))
 (o34:q47 ws (∀ (x3:Nat),q4a ws x3 (∀ (x6:Nat),q4d ws x3 x6 (inI ((x6:Int) + 1)))))
 (o35:q47 ws (∀ (x3:Nat),q4a ws x3 (∀ (x6:Nat),q4d ws x3 x6 ((↑((cpTo 0 ws (x3 + x6)).length):Int) + 1=(↑((cpTo 0 ws (x3 + (x6 + 1))).length):Int)))))
 (o36:q47 ws (∀ (x3:Nat),q4a ws x3 (∀ (x6:Nat),q4d ws x3 x6 ((x6:Int) + 1=(↑(x6 + 1):Int)))))
 (o37:q47 ws (∀ (x3:Nat),q4a ws x3 (∀ (x6:Nat),q4d ws x3 x6 (∀ (i11:Nat),i11 < ws.length->Decidable.rec (fun (h:¬i11=(cpTo 0 ws (x3 + x6)).length)=>[iv (rowK 0 ws (x3 + x6) i11)]) (fun (h:i11=(cpTo 0 ws (x3 + x6)).length)=>[iv (rowK 0 ws (x3 + x6) (x3 + x6))] ++ []) (instDecidableEqNat i11 (cpTo 0 ws (x3 + x6)).length) = [iv (rowK 0 ws (x3 + (x6 + 1)) i11)]))))
 (o38:q47 ws (∀ (x3:Nat),q4a ws x3 (∀ (x6:Nat),q4d ws x3 x6 (1<=x6 + 1/\x3 + (x6 + 1)<=ws.length))))
 (o39:q47 ws (∀ (x3:Nat),q4a ws x3 (∀ (x6:Nat),q4d ws x3 x6 (ws.length - (x6 + 1) < ws.length - x6))))
 (o40:q47 ws (∀ (x3:Nat),q4a ws x3 (∀ (x6:Nat),q4e ws x3 x6 (inI ((x6:Int) + 1)))))
 (o41:q47 ws (∀ (x3:Nat),q4a ws x3 (∀ (x6:Nat),q4e ws x3 x6 ((↑((cpTo 0 ws (x3 + x6)).length):Int)=(↑((cpTo 0 ws (x3 + (x6 + 1))).length):Int)))))
 (o42:q47 ws (∀ (x3:Nat),q4a ws x3 (∀ (x6:Nat),q4e ws x3 x6 ((x6:Int) + 1=(↑(x6 + 1):Int)))))
 (o43:q47 ws (∀ (x3:Nat),q4a ws x3 (∀ (x6:Nat),q4e ws x3 x6 (∀ (i13:Nat),i13 < ws.length -> [iv (rowK 0 ws (x3 + x6) i13)] = [iv (rowK 0 ws (x3 + (x6 + 1)) i13)]))))
 (o44:q47 ws (∀ (x3:Nat),q4a ws x3 (∀ (x6:Nat),q4e ws x3 x6 (1<=x6 + 1/\x3 + (x6 + 1)<=ws.length))))
 (o45:q47 ws (∀ (x3:Nat),q4a ws x3 (∀ (x6:Nat),q4e ws x3 x6 (ws.length - (x6 + 1) < ws.length - x6))))
 (o46:q47 ws (∀ (x3:Nat),q4a ws x3 (∀ (x6:Nat),q4f ws x3 x6 (0<=(↑((cpTo 0 ws (x3 + x6)).length):Int)))))
 (o47:q47 ws (∀ (x3:Nat),q4a ws x3 (∀ (x6:Nat),q4f ws x3 x6 ((↑((cpTo 0 ws (x3 + x6)).length):Int) < (↑(ws.length):Int)))))
 (o48:q47 ws (∀ (x3:Nat),q4a ws x3 (∀ (x6:Nat),q4f ws x3 x6 ((cpTo 0 ws (x3 + x6)).length + (ws.length - (cpTo 0 ws (x3 + x6)).length)=ws.length))))
 (o49:q47 ws (∀ (x3:Nat),q4a ws x3 (∀ (x6:Nat),q4f ws x3 x6 (0 < ws.length - (cpTo 0 ws (x3 + x6)).length))))
 (o50:q47 ws (∀ (x3:Nat),q4a ws x3 (∀ (x6:Nat),q4f ws x3 x6 (∀ (i15:Nat),i15 < ws.length->Decidable.rec (fun (h:¬i15 < (cpTo 0 ws (x3 + x6)).length)=>[iv 0]) (fun (h:i15 < (cpTo 0 ws (x3 + x6)).length)=>[iv (rowK 0 ws (x3 + x6) i15)]) (Nat.decLt i15 (cpTo 0 ws (x3 + x6)).length) = [iv (endC ws i15)]))))
 (o51:q47 ws (∀ (x3:Nat),q4a ws x3 (∀ (x6:Nat),q4f ws x3 x6 (0<=(↑((cpTo 0 ws (x3 + x6)).length):Int)))))
 (o52:q47 ws (∀ (x3:Nat),q4a ws x3 (∀ (x6:Nat),q4f ws x3 x6 ((↑((cpTo 0 ws (x3 + x6)).length):Int)<=(↑(ws.length):Int)))))
 (o53:q47 ws (∀ (x3:Nat),q4a ws x3 (∀ (x6:Nat),q4f ws x3 x6 ((cpTo 0 ws (x3 + x6)).length=(cpL 0 ws).length))))
 (o54:q47 ws (∀ (x3:Nat),q4a ws x3 (∀ (x6:Nat),q4f ws x3 x6 (∀ (i17:Nat),i17 < (cpTo 0 ws (x3 + x6)).length -> [iv (endC ws i17)] = [iv ((cpL 0 ws).getD i17 0)]))))
 (o55:q47 ws (∀ (x3:Nat),q4g ws x3 (inI ((x3:Int) + 1))))
 (o56:q47 ws (∀ (x3:Nat),q4g ws x3 ((x3:Int) + 1=(↑(x3 + 1):Int))))
 (o57:q47 ws (∀ (x3:Nat),q4g ws x3 (1<=x3 + 1/\x3 + 1<=ws.length /\ ∀ (j:Nat),j < x3 + 1->newAt 0 ws j=true)))
 (o58:q47 ws (∀ (x3:Nat),q4g ws x3 (ws.length - (x3 + 1) < ws.length - x3)))
 (o59:q47 ws (∀ (x3:Nat),q48 ws x3 (decide ((x3:Int) < (↑(ws.length):Int))=false->ws.length=(cpL 0 ws).length)))
 (o60:q47 ws (∀ (x3:Nat),q48 ws x3 (decide ((x3:Int) < (↑(ws.length):Int))=false -> ∀ (i19:Nat),i19 < ws.length -> [iv (ws.getD i19 0)] = [iv ((cpL 0 ws).getD i19 0)])))
  (l:List (Nat × Nat)) (hl:l.map (·.1) = [0,3]) (hnd:(l.map (·.2)).Nodup) :
  Triple Tryz.prog 71 (IoSpec.at (io71 ws) l):=by
 refine triple_io Tryz.func71 rfl Tryz.call71 T0_ok (io71 ws) 2 l (by rw [hl]; kernel_rfl) hnd (Nat.le_of_ble_eq_true (by kernel_rfl)) (fun _ _ _ _ h=>h) ?_
 intro hpre C hC _ hE
 obtain ⟨P,w0,E0,av,hA,ro,df⟩:=C
 obtain ⟨rfl,rfl,rfl⟩:=hC
 refine swp_seq ?_
 refine zR [0] [0] (Ak 1 tv) ?_
 refine swp_seq ?_
 refine swp_seq ?_
 refine zR [0,8] [0] (Ak 3 tv) ?_
 refine zI (decide ((↑(ws.length):Int) < 2)) (fun y0 => ?_) (fun y0 => ?_)
 ·refine swp_seq ?_
  refine zR [2] [0] (Ak 2 tv) ?_
  refine swp_ret ?_
  exact zO (ASt.mk [(2,AV.vec 3)] [(3,OB.vec 3 1 (cpL 0 ws).length fun (i:Nat)=>[iv ((cpL 0 ws).getD i 0)])] 100) (zEn 2 hE [] [(3,.same 0)] [] [] (An (An (zr (some (Src.same 0))) tv) (An (An (An (zr 3) (An (zr 1) (An (o0 hpre y0) (fun (i1:Nat)=>(fun (y2:i1 < ws.length)=>(o1 hpre y0 i1 y2)))))) tv) (An (zr true) (zr true))))) (An (Ak 1 tv) (An (zr (AV.vec 3)) (An (zr (some (OB.vec 3 1 (cpL 0 ws).length fun (i:Nat)=>[iv ((cpL 0 ws).getD i 0)]))) tv)))
 ·refine swp_skip ?_
  refine swp_seq ?_
  refine swp_seq ?_
  refine zR [0,3] [0] (Ak 1 tv) ?_
  refine swp_block ?_
  refine zL (Hint.ann (h71a ws) [(0,AV.vec 0)] [(0,OB.vec 3 1 ws.length fun (i:Nat)=>[iv (ws.getD i 0)])] 10042) (zEn 2 hE [] [(0,.same 0)] [] [0] (An (An (zr (some (Src.same 0))) (An (An (ci (o2 hpre y0)) (zr nilN)) tv)) (An (An (An (zr (OB.vec 3 1 ws.length fun (i:Nat)=>[iv (ws.getD i 0)])) (zr true)) tv) (An (zr true) (zr true))))) (o3 hpre y0) (fun (x3:Nat) hx3 => ?_)
  refine swp_seq ?_
  refine swp_seq ?_
  refine zR [0,3,13] [0] (Ak 4 tv) ?_
  refine zI (decide ((x3:Int) < (↑(ws.length):Int))) (fun y4 => ?_) (fun y4 => ?_)
  ·refine swp_skip ?_
   refine swp_seq ?_
   refine swp_block ?_
   refine swp_seq ?_
   refine zR [0,3,25] [0] (Ak 2 (An (An (o4 hpre y0 x3 hx3 y4) (o5 hpre y0 x3 hx3 y4)) (An (An (o6 hpre y0 x3 hx3 y4) tv) (Ak 2 (An (o7 hpre y0 x3 hx3 y4) (An (An (o8 hpre y0 x3 hx3 y4) (o9 hpre y0 x3 hx3 y4)) (An (An (o10 hpre y0 x3 hx3 y4) tv) (Ak 1 tv)))))))) ?_
   refine zI (decide (ws.getD x3 0=ws.getD ((x3:Int) - 1).toNat 0)) (fun y5 => ?_) (fun y5 => ?_)
   ·refine swp_seq ?_
    refine zR [0,3,4] [0] (Ak 2 (An (An (o11 hpre y0 x3 hx3 y4 y5) (o12 hpre y0 x3 hx3 y4 y5)) (Ak 1 tv))) ?_
    refine swp_seq ?_
    refine swp_seq ?_
    refine zR [0,3,4,5] [0] (Ak 1 tv) ?_
    refine swp_block ?_
    refine zL (Hint.ann (h71b ws x3) [(0,AV.vec 0),(4,AV.win 0 [PS.idx x3 1] 1 (ws.length - x3))] [] 20194) (zEn 2 hE [] [(0,.same 0)] [] [] (An (An (zr (some (Src.same 0))) (An (An (zr (some (Src.same 0))) (An (zr ([PS.idx x3 1])) (An (zr 1) (zr (ws.length - x3))))) (An (An (ci (o13 hpre y0 x3 hx3 y4 y5)) (zr nilN)) (An (An (ci (o14 hpre y0 x3 hx3 y4 y5)) (zr nilN)) tv)))) (An (An (An (zr 3) (An (zr 1) (An (zr ws.length) (fun (i7:Nat)=>(fun (y8:i7 < ws.length)=>(o15 hpre y0 x3 hx3 y4 y5 i7 y8)))))) tv) (An (zr true) (zr true))))) (o16 hpre y0 x3 hx3 y4 y5) (fun (x6:Nat) hx6 => ?_)
    refine swp_seq ?_
    refine swp_seq ?_
    refine zR [0,4,3,5,32] [0] (Ak 4 tv) ?_
    refine zI (decide ((x6:Int) < (↑(ws.length - x3):Int))) (fun y9 => ?_) (fun y9 => ?_)
    ·refine swp_skip ?_
     refine swp_seq ?_
     refine swp_block ?_
     refine swp_seq ?_
     refine zR [0,4,3,5,44] [0] (Ak 2 (An (An (o17 hpre y0 x3 hx3 y4 y5 x6 hx6 y9) (An (o18 hpre y0 x3 hx3 y4 y5 x6 hx6 y9) (o19 hpre y0 x3 hx3 y4 y5 x6 hx6 y9))) (An (An (o20 hpre y0 x3 hx3 y4 y5 x6 hx6 y9) tv) (Ak 2 (An (o21 hpre y0 x3 hx3 y4 y5 x6 hx6 y9) (An (An (o22 hpre y0 x3 hx3 y4 y5 x6 hx6 y9) (An (o23 hpre y0 x3 hx3 y4 y5 x6 hx6 y9) (o24 hpre y0 x3 hx3 y4 y5 x6 hx6 y9))) (An (An (o25 hpre y0 x3 hx3 y4 y5 x6 hx6 y9) tv) (Ak 1 tv)))))))) ?_
     refine zI (!decide (rowK 0 ws (x3 + x6) (x3 + x6)=rowK 0 ws (x3 + x6) (x3 + ((x6:Int) - 1).toNat))) (fun y10 => ?_) (fun y10 => ?_)
     ·refine swp_seq ?_
      refine zR [0,4,3,5] [0] (Ak 4 (An (An (o26 hpre y0 x3 hx3 y4 y5 x6 hx6 y9 y10) (An (o27 hpre y0 x3 hx3 y4 y5 x6 hx6 y9 y10) (o28 hpre y0 x3 hx3 y4 y5 x6 hx6 y9 y10))) (An (An (o29 hpre y0 x3 hx3 y4 y5 x6 hx6 y9 y10) tv) (An (An (o30 hpre y0 x3 hx3 y4 y5 x6 hx6 y9 y10) (o31 hpre y0 x3 hx3 y4 y5 x6 hx6 y9 y10)) (An (An (o32 hpre y0 x3 hx3 y4 y5 x6 hx6 y9 y10) tv) tv))))) ?_
      refine zR [0,4,3,5] [0] (Ak 1 (An (o33 hpre y0 x3 hx3 y4 y5 x6 hx6 y9 y10) (Ak 1 tv))) ?_
      refine zR [0,4,3,5] [0] (Ak 1 (An (o34 hpre y0 x3 hx3 y4 y5 x6 hx6 y9 y10) (Ak 1 tv))) ?_
      exact zn (zEn 2 hE [] [(0,.same 0)] [] [] (An (An (zr (some (Src.same 0))) (An (An (zr (some (Src.same 0))) (An (zr ([PS.idx x3 1])) (An (zr 1) (zr (ws.length - x3))))) (An (An (ci (o35 hpre y0 x3 hx3 y4 y5 x6 hx6 y9 y10)) (zr nilN)) (An (An (ci (o36 hpre y0 x3 hx3 y4 y5 x6 hx6 y9 y10)) (zr nilN)) tv)))) (An (An (An (zr 3) (An (zr 1) (An (zr ws.length) (fun (i11:Nat)=>(fun (y12:i11 < ws.length)=>(o37 hpre y0 x3 hx3 y4 y5 x6 hx6 y9 y10 i11 y12)))))) tv) (An (zr true) (zr true))))) (o38 hpre y0 x3 hx3 y4 y5 x6 hx6 y9 y10) (o39 hpre y0 x3 hx3 y4 y5 x6 hx6 y9 y10)
     ·refine swp_skip ?_
      refine zR [0,4,3,5] [0] (Ak 1 (An (o40 hpre y0 x3 hx3 y4 y5 x6 hx6 y9 y10) (Ak 1 tv))) ?_
      exact zn (zEn 2 hE [] [(0,.same 0)] [] [] (An (An (zr (some (Src.same 0))) (An (An (zr (some (Src.same 0))) (An (zr ([PS.idx x3 1])) (An (zr 1) (zr (ws.length - x3))))) (An (An (ci (o41 hpre y0 x3 hx3 y4 y5 x6 hx6 y9 y10)) (zr nilN)) (An (An (ci (o42 hpre y0 x3 hx3 y4 y5 x6 hx6 y9 y10)) (zr nilN)) tv)))) (An (An (An (zr 3) (An (zr 1) (An (zr ws.length) (fun (i13:Nat)=>(fun (y14:i13 < ws.length)=>(o43 hpre y0 x3 hx3 y4 y5 x6 hx6 y9 y10 i13 y14)))))) tv) (An (zr true) (zr true))))) (o44 hpre y0 x3 hx3 y4 y5 x6 hx6 y9 y10) (o45 hpre y0 x3 hx3 y4 y5 x6 hx6 y9 y10)
    ·refine swp_exit ?_
     refine swp_seq ?_
     refine zR [0,3] [0] (Ak 2 (An (An (o46 hpre y0 x3 hx3 y4 y5 x6 hx6 y9) (o47 hpre y0 x3 hx3 y4 y5 x6 hx6 y9)) (An (An (o48 hpre y0 x3 hx3 y4 y5 x6 hx6 y9) (o49 hpre y0 x3 hx3 y4 y5 x6 hx6 y9)) tv))) ?_
     refine swp_seq ?_
     refine swp_ent (zEn (st2:=ASt.mk [(0,AV.vec 0),(3,iv (↑((cpTo 0 ws (x3 + x6)).length):Int))] [(0,OB.vec 3 1 ws.length fun (q:Nat)=>[iv (endC ws q)])] 20258) 2 hE [] [(0,.same 0)] [3] [] (An (An (zr (some (Src.same 0))) (An (An (zr (iv (↑((cpTo 0 ws (x3 + x6)).length):Int))) (zr true)) tv)) (An (An (An (zr 3) (An (zr 1) (An (zr ws.length) (fun (i15:Nat)=>(fun (y16:i15 < ws.length)=>(o50 hpre y0 x3 hx3 y4 y5 x6 hx6 y9 i15 y16)))))) tv) (An (zr true) (zr true))))) ?_
     refine zC ([(2,focB8)]) [2] [20274] (Ak 2 (An (An (o51 hpre y0 x3 hx3 y4 y5 x6 hx6 y9) (o52 hpre y0 x3 hx3 y4 y5 x6 hx6 y9)) (Ak 1 tv))) ?_
     refine swp_ret ?_
     exact zO (ASt.mk [(2,AV.vec 3)] [(3,OB.vec 3 1 (cpL 0 ws).length fun (i:Nat)=>[iv ((cpL 0 ws).getD i 0)])] 100) (zEn 2 hE [] [(3,.same 20274)] [] [] (An (An (zr (some (Src.same 20274))) tv) (An (An (An (zr 3) (An (zr 1) (An (o53 hpre y0 x3 hx3 y4 y5 x6 hx6 y9) (fun (i17:Nat)=>(fun (y18:i17 < (cpTo 0 ws (x3 + x6)).length)=>(o54 hpre y0 x3 hx3 y4 y5 x6 hx6 y9 i17 y18)))))) tv) (An (zr true) (zr true))))) (An (Ak 1 tv) (An (zr (AV.vec 3)) (An (zr (some (OB.vec 3 1 (cpL 0 ws).length fun (i:Nat)=>[iv ((cpL 0 ws).getD i 0)]))) tv)))
   ·refine swp_skip ?_
    refine zR [0,3] [0] (Ak 1 (An (o55 hpre y0 x3 hx3 y4 y5) (Ak 1 tv))) ?_
    exact zn (zEn 2 hE [] [(0,.same 0)] [] [0] (An (An (zr (some (Src.same 0))) (An (An (ci (o56 hpre y0 x3 hx3 y4 y5)) (zr nilN)) tv)) (An (An (An (zr (OB.vec 3 1 ws.length fun (i:Nat)=>[iv (ws.getD i 0)])) (zr true)) tv) (An (zr true) (zr true))))) (o57 hpre y0 x3 hx3 y4 y5) (o58 hpre y0 x3 hx3 y4 y5)
  ·refine swp_exit ?_
   refine swp_seq ?_
   refine zR [2] [0] (Ak 2 tv) ?_
   refine swp_ret ?_
   exact zO (ASt.mk [(2,AV.vec 3)] [(3,OB.vec 3 1 (cpL 0 ws).length fun (i:Nat)=>[iv ((cpL 0 ws).getD i 0)])] 100) (zEn 2 hE [] [(3,.same 0)] [] [] (An (An (zr (some (Src.same 0))) tv) (An (An (An (zr 3) (An (zr 1) (An (o59 hpre y0 x3 hx3 y4) (fun (i19:Nat)=>(fun (y20:i19 < ws.length)=>(o60 hpre y0 x3 hx3 y4 i19 y20)))))) tv) (An (zr true) (zr true))))) (An (Ak 1 tv) (An (zr (AV.vec 3)) (An (zr (some (OB.vec 3 1 (cpL 0 ws).length fun (i:Nat)=>[iv ((cpL 0 ws).getD i 0)]))) tv)))
theorem endC_lt {ws:List Int} {q:Nat} (h:q < (cpL 0 ws).length):endC ws q=(cpL 0 ws).getD q 0:=if_pos h
theorem endC_ge {ws:List Int} {q:Nat} (h:¬ q < (cpL 0 ws).length):endC ws q=0:=if_neg h
theorem t71 (b:Nat) (ws:List Int) (id:Nat) (hid:[b,id].Nodup:=by decide):Triple Tryz.prog 71 (s71 b ws id):=by
  apply wio71 ws (l:=[(0,b),(3,id)]) (hl:=rfl) (hnd:=hid)
  all_goals (try delta q46 q47 q48 q49 q4a q4b q4c q4d q4e q4f q4g)
  all_goals (intro hp hc; simp only [decide_eq_true_eq,decide_eq_false_iff_not] at hc)
  case o0=>rw [cpL_id fun j hj=>new_first j (by omega)]
  case o1=>rw [cpL_id fun j hj=>new_first j (by omega)]; intro i _; rfl
  case o2=>rfl
  case o3=>exact ⟨by omega,by omega,new_first⟩
  all_goals (intro x hx; obtain ⟨x1,x2,x3⟩:=hx; intro hl; simp only [decide_eq_true_eq,decide_eq_false_iff_not] at hl)
  case o59=>rw [cpL_id fun j hj=>x3 j (by omega)]
  case o60=>rw [cpL_id fun j hj=>x3 j (by omega)]; intro i _; rfl
  case o4 | o5 | o6 | o8 | o9 | o10=>all_goals omega
  case o7=>simp only [inI]; omega
  all_goals (have ex:((x:Int) - 1).toNat=x - 1:=by omega)
  all_goals (rw [ex]; intro hd)
  case o57=>exact ⟨by omega,by omega,lt_succ_cases x3 (by rw [newAt_pos (by omega),hd]; rfl)⟩
  case o55=>simp only [inI]; omega
  case o56=>rfl
  case o58=>omega
  all_goals (have hn:newAt 0 ws x=false:=by rw [newAt_pos (by omega),hd]; rfl)
  all_goals (have hc1:cpTo 0 ws (x + 1)=ws.take x:=by rw [cpTo_f hn,cpTo_first (by omega) x3])
  case o11 | o12=>all_goals omega
  case o13=>rw [hc1,List.length_take]; omega
  case o14=>rfl
  case o15 =>
    intro i hi
    unfold rowK
    rw [hc1]
    split
    · rename_i h; rw [List.length_take] at h; rw [take_getD _ _ (by omega)]
    · rfl
  case o16=>exact ⟨Nat.le_refl _,by omega⟩
  all_goals (intro k hk; obtain ⟨k1,k2⟩:=hk; intro hkl; simp only [decide_eq_true_eq,decide_eq_false_iff_not] at hkl)
  all_goals (have hlt:=cpTo_lt hn (n:=x + k) (by omega))
  case o50 =>
    have hall:x + k=ws.length:=by omega
    intro i hi
    rw [hall]
    refine rec_lt8 (fun h=>by rw [endC_ge h]) (fun h => ?_)
    rw [endC_lt h]
    unfold rowK
    rw [if_pos h]; rfl
  case o53 => have hall : x + k = ws.length := by omega
              rw [hall]; rfl
  case o54 => have hall : x + k = ws.length := by omega
              intro i hi; rw [hall] at hi; rw [endC_lt hi]
  all_goals (try (first | omega | (simp only [inI]; omega)))
  all_goals (have ek:((k:Int) - 1).toNat=k - 1:=by omega)
  all_goals (rw [ek,rowK_far (Nat.le_refl _),rowK_past (show (cpTo 0 ws (x + k)).length<=x + (k - 1) by omega)])
  all_goals (intro hd2)
  all_goals (try (first | omega | (simp only [inI]; omega) | rfl))
  all_goals (have exk:x + (k - 1)=x + k - 1:=by omega)
  all_goals (rw [exk] at hd2)
  case o35 =>
    have:newAt 0 ws (x + k)=true:=by rw [newAt_pos (by omega)]; exact hd2
    rw [← Nat.add_assoc,cpTo_t this,List.length_append]; rfl
  case o37 =>
    have:newAt 0 ws (x + k)=true:=by rw [newAt_pos (by omega)]; exact hd2
    intro i hi
    rw [← Nat.add_assoc,rowK_t this]
    exact rec_ei8 (fun h=>by rw [if_neg h]) (fun h=>by rw [if_pos h]; rfl)
  case o41 =>
    have:newAt 0 ws (x + k)=false:=by rw [newAt_pos (by omega)]; exact hd2
    rw [← Nat.add_assoc,cpTo_f this]
  case o43 =>
    have:newAt 0 ws (x + k)=false:=by rw [newAt_pos (by omega)]; exact hd2
    intro i hi
    rw [← Nat.add_assoc,rowK_f this]
  all_goals (constructor <;> omega)
theorem wo36 (b:Book) (ls:List Int)
  (o0:SoundB b/\GoodLn b ls->(bestB b ls).1.length<=65536)
  (o1:SoundB b/\GoodLn b ls->(delW (bestB b ls).1 isSgl).length<=65536)
  (o2:SoundB b/\GoodLn b ls->(sortI (delW (bestB b ls).1 isSgl)).length<=65536)
  (o3:SoundB b/\GoodLn b ls->(cpL 0 (sortI (delW (bestB b ls).1 isSgl))).length=(boughtB b ls).length)
  (o4:SoundB b/\GoodLn b ls -> ∀ (i4:Nat),i4 < (cpL 0 (sortI (delW (bestB b ls).1 isSgl))).length -> [iv ((cpL 0 (sortI (delW (bestB b ls).1 isSgl))).getD i4 0)] = [iv ((boughtB b ls).getD i4 0)])
  (l:List (Nat × Nat)) (hl:l.map (·.1)=(OutSpec.hout (ou36 b ls)).map (·.1)) (hnd:(l.map (·.2)).Nodup) :
  Triple Tryz.prog 36 (OutSpec.at (ou36 b ls) l):=by
 refine triple_out Tryz.func36 rfl Tryz.call36 T0_ok _ _ _ _ l rfl (Nat.le_of_ble_eq_true (by kernel_rfl)) hl hnd (by kernel_rfl) (by kernel_rfl) (by kernel_rfl) ?_
 intro hpre C hC hE
 obtain ⟨P,w0,E0,av,hA,ro,df⟩:=C
 obtain ⟨rfl,rfl,rfl⟩:=hC
 refine swp_seq ?_
 refine zR [0,1] [] (Ak 1 tv) ?_
 refine swp_seq ?_
 refine zC ([(2,CallSpec.eq (c36a b ls 24) [true,true])]) [5] [24] (Ak 2 (An (An (An (zr (AV.rp (cWk b))) (An (zr (aInts ls)) tv)) (An (t32o (b) (ls) (24)) (An (An hpre.1 hpre.2) (Ak 1 (fun (i0:Env)=>tv))))) (Ak 5 tv))) ?_
 refine swp_seq ?_
 refine zC ([(1,CallSpec.eq (c36b b ls 80) [true,true])]) [5] [80] (Ak 1 (An (An (An (zr (AV.vec 24)) (An (zr (AV.clo 69 [])) tv)) (An (t68b (24) (bestB b ls).1 (80)) (An (o0 hpre) (An (An (zr (some (OB.vec 3 1 (bestB b ls).1.length fun (i:Nat)=>[iv ((bestB b ls).1.getD i 0)]))) tv) (fun (i1:Env)=>tv))))) (Ak 1 tv))) ?_
 refine swp_seq ?_
 refine zC ([(1,CallSpec.eq (c36c b ls) [true])]) [5] [80] (Ak 1 (An (An (An (zr (AV.vec 80)) tv) (An (t70 (80) (delW (bestB b ls).1 isSgl)) (An (o1 hpre) (An (An (zr (some (OB.vec 3 1 (delW (bestB b ls).1 isSgl).length fun (i:Nat)=>[iv ((delW (bestB b ls).1 isSgl).getD i 0)]))) tv) (fun (i2:Env)=>tv))))) tv)) ?_
 refine swp_seq ?_
 refine zC ([(1,CallSpec.eq (c36d b ls 120) [true])]) [4] [120] (Ak 1 (An (An (An (zr (AV.vec 80)) tv) (An (t71 (80) (sortI (delW (bestB b ls).1 isSgl)) (120)) (An (o2 hpre) (An (An (zr (some (OB.vec 3 1 (sortI (delW (bestB b ls).1 isSgl)).length fun (i:Nat)=>[iv ((sortI (delW (bestB b ls).1 isSgl)).getD i 0)]))) tv) (fun (i3:Env)=>tv))))) (Ak 1 tv))) ?_
 refine swp_ret ?_
 exact zO (ASt.mk [(4,AV.vec 0)] [(0,OB.vec 3 1 (boughtB b ls).length fun (i:Nat)=>[iv ((boughtB b ls).getD i 0)])] 100) (zE hE [] [(0,.same 120)] [] [] (An (An (zr (some (Src.same 120))) tv) (An (An (An (zr 3) (An (zr 1) (An (o3 hpre) (fun (i4:Nat)=>(fun (y5:i4 < (cpL 0 (sortI (delW (bestB b ls).1 isSgl))).length)=>(o4 hpre i4 y5)))))) tv) (An (zr true) (zr true))))) (An (Ak 1 tv) (An (zr (AV.vec 0)) (An (zr (some (OB.vec 3 1 (boughtB b ls).length fun (i:Nat)=>[iv ((boughtB b ls).getD i 0)]))) tv)))
theorem best_len {b:Book} {ls:List Int} (hs:SoundB b) (hg:GoodLn b ls):(bestB b ls).1.length<=6:=by
 have h1:=(bill_ok.1 (best_is hs hg).bill).1
 have:=stds_small hs
 omega
theorem delW_le (l:List Int) (P:Int->Bool):(delW l P).length<=l.length:=List.length_filter_le _ _
theorem to36 (b:Book) (ls:List Int) (l:List (Nat × Nat)) (hl:l.map (·.1) = [0]) (hnd:(l.map (·.2)).Nodup):Triple Tryz.prog 36 ((ou36 b ls).at l):=by
 apply wo36 (l:=l) (hl:=hl) (hnd:=hnd)
 all_goals (rintro ⟨hs,hg⟩)
 all_goals (have hbl:=best_len hs hg; have hdl:=delW_le (bestB b ls).1 isSgl; have hsl:=sortI_len (delW (bestB b ls).1 isSgl))
 all_goals (first | omega | rfl | skip)
 all_goals (have e:cpL 0 (sortI (delW (bestB b ls).1 isSgl))=boughtB b ls:=cp_bought hs hg; rw [e]; try (intro i _; rfl))
theorem t36o (b:Book) (ls:List Int) (id:Nat):Triple Tryz.prog 36 (s36o b ls id):=to36 b ls _ rfl (by simp)
abbrev q4h (b:Book) (ls:List Int) (P:Prop):Prop:=smallB b/\ls.length<=60000->P
abbrev q4i (b:Book) (ls:List Int) (P:Prop):Prop:=q4h b ls ((!decide (givenE b ls true=0))=false->P)
theorem w10 (b:Book) (ls:List Int)
 (o0:q4h b ls ((!decide (givenE b ls true=0))=true->(billL b ls).length=0))
 (o1:q4i b ls ((okBook b && (true && areLnB b ls))=true))
 (o2:q4i b ls (SoundB b))
 (o3:q4i b ls (GoodLn b ls))
 (o4:q4i b ls ((bestB b ls).1.length=(billL b ls).length))
 (o5:q4i b ls (∀ (i3:Nat),i3 < (billL b ls).length -> [iv ((bestB b ls).1.getD i3 0)] = [iv ((billL b ls).getD i3 0)]))
 (o6:q4i b ls (0=givenE b ls true)) :
  Triple Tryz.prog 10 (s10 b ls):=by
 refine triple_of Tryz.func10 rfl Tryz.call10 T0_ok _ rfl rfl rfl rfl (Nat.le_of_ble_eq_true (by kernel_rfl)) (fun _ _ _ _ h=>h) ?_
 intro hpre C hC _ hE
 obtain ⟨P,w0,E0,av,hA,ro,df⟩:=C
 obtain ⟨rfl,rfl,rfl⟩:=hC
 refine swp_seq ?_
 refine zR [1,2] [0] (Ak 3 tv) ?_
 refine swp_seq ?_
 refine zC ([(2,CallSpec.eq (s31 b ls true) [true,true,true])]) [1,6,7] [] (Ak 2 (An (An (An (zr (AV.agg (cBk b))) (An (zr (aInts ls)) (An (zr (bv true)) tv))) (An (t31 (b) (ls) (true)) (An (An hpre.1 hpre.2) (Ak 1 (fun (i0:Env)=>tv))))) (Ak 5 tv))) ?_
 refine swp_seq ?_
 refine swp_seq ?_
 refine zR [1,6,7,17] [] (Ak 2 tv) ?_
 refine zI (!decide (givenE b ls true=0)) (fun y1 => ?_) (fun y1 => ?_)
 ·refine swp_seq ?_
  refine zR [4,5] [] (Ak 3 tv) ?_
  refine swp_ret ?_
  exact zT [] (An (Ak 2 tv) (An (An (o0 hpre y1) (An (An (zr (iv (givenE b ls true))) (zr nilN)) tv)) (An (zr true) (An (zr true) (zr true)))))
 ·refine swp_skip ?_
  refine swp_seq ?_
  refine zC ([(2,CallSpec.eq (c10 b ls 120) [false,true])]) [8] [120] (Ak 2 (An (An (An (An (o1 hpre y1) (zr (cWk b))) (An (zr (aInts ls)) tv)) (An (t32o (b) (ls) (120)) (An (An (o2 hpre y1) (o3 hpre y1)) (Ak 1 (fun (i2:Env)=>tv))))) (Ak 5 tv))) ?_
  refine swp_seq ?_
  refine zR [4,5] [120] (Ak 3 tv) ?_
  refine swp_ret ?_
  exact zT [120] (An (Ak 2 tv) (An (An (An (zr 1) (An (o4 hpre y1) (fun (i3:Nat)=>(fun (y4:i3 < (billL b ls).length)=>(o5 hpre y1 i3 y4))))) (An (An (ci (o6 hpre y1)) (zr nilN)) tv)) (An (zr true) (An (zr true) (zr true)))))
theorem t10 (b:Book) (ls:List Int):Triple Tryz.prog 10 (s10 b ls):=by
 apply w10
 all_goals (try delta q4h q4i)
 all_goals (intro hp h; rw [giv_ok] at h)
 case o0=>simp only [Bool.not_eq_true'] at h; unfold billL; rw [h]; rfl
 all_goals (simp only [Bool.not_eq_false'] at h; have h1:=giv_eq h; have hh:=h; rw [Bool.and_eq_true] at hh)
 case o1=>exact h
 case o2=>exact ok_soundB hh.1
 case o3=>exact are_goodB hh.2
 case o4=>unfold billL; rw [h]; rfl
 case o5=>unfold billL; rw [h]; intro i _; rfl
 case o6=>exact h1.symm
abbrev q4j (b:Book) (P:Prop):Prop:=smallB b->(!decide (openE b true=0))=true->P
abbrev q4k (b:Book) (P:Prop):Prop:=smallB b->(!decide (openE b true=0))=false->P
theorem w18 (b:Book)
 (o0:q4j b (0=(owedN b).lo))
 (o1:q4j b (0=(owedN b).hi))
 (o2:q4j b (openE b true=checkB b))
 (o3:q4k b ((okBook b && true)=true))
 (o4:q4k b (SoundB b))
 (o5:q4k b ((owedB b).lo=(owedN b).lo))
 (o6:q4k b ((owedB b).hi=(owedN b).hi))
 (o7:q4k b (0=checkB b)) :
  Triple Tryz.prog 18 (s18 b):=by
 refine triple_of Tryz.func18 rfl Tryz.call18 T0_ok _ rfl rfl rfl rfl (Nat.le_of_ble_eq_true (by kernel_rfl)) (fun _ _ _ _ h=>h) ?_
 intro hpre C hC _ hE
 obtain ⟨P,w0,E0,av,hA,ro,df⟩:=C
 obtain ⟨rfl,rfl,rfl⟩:=hC
 refine swp_seq ?_
 refine zR [1,2] [0,8] (Ak 3 tv) ?_
 refine swp_seq ?_
 refine zC ([(1,CallSpec.eq (s43 b true) [true,true])]) [2,4,5] [8] (Ak 1 (An (An (An (zr (AV.agg (cBk b))) (An (zr (bv true)) tv)) (An (t43 (b) (true)) (An hpre (Ak 1 (fun (i0:Env)=>tv))))) (Ak 5 tv))) ?_
 refine swp_seq ?_
 refine swp_seq ?_
 refine zR [2,4,5,12] [8] (Ak 2 tv) ?_
 refine zI (!decide (openE b true=0)) (fun y1 => ?_) (fun y1 => ?_)
 ·refine swp_seq ?_
  refine zR [2,3] [8] (Ak 4 tv) ?_
  refine swp_ret ?_
  exact zT [] (An (Ak 2 tv) (An (An (An (An (ci (o0 hpre y1)) (zr nilN)) (An (An (ci (o1 hpre y1)) (zr nilN)) tv)) (An (An (ci (o2 hpre y1)) (zr nilN)) tv)) (An (zr true) (An (zr true) (zr true)))))
 ·refine swp_skip ?_
  refine swp_seq ?_
  refine zC ([(1,CallSpec.eq (c18 b) [false])]) [2,3] [8] (Ak 1 (An (An (An (An (o3 hpre y1) (zr (cWk b))) tv) (An (t44 (b)) (An (o4 hpre y1) (Ak 1 (fun (i2:Env)=>tv))))) (Ak 2 tv))) ?_
  refine swp_ret ?_
  exact zT [] (An (Ak 2 tv) (An (An (An (An (ci (o5 hpre y1)) (zr nilN)) (An (An (ci (o6 hpre y1)) (zr nilN)) tv)) (An (An (ci (o7 hpre y1)) (zr nilN)) tv)) (An (zr true) (An (zr true) (zr true)))))
theorem t18 (b:Book):Triple Tryz.prog 18 (s18 b):=by
 apply w18
 all_goals (try delta q4j q4k)
 all_goals (intro hp h; rw [open_true,chk_b] at h)
 case o0 | o1=>all_goals (simp only [Bool.not_eq_true'] at h; unfold owedN; rw [h]; rfl)
 case o2=>exact open_true b
 all_goals (simp only [Bool.not_eq_false'] at h)
 case o3=>rw [h]; rfl
 case o4=>exact ok_soundB h
 case o5 | o6=>all_goals (unfold owedN; rw [h]; rfl)
 case o7=>unfold checkB; rw [h]; rfl
end Go.Ab
namespace Go.Sh
end Go.Sh
namespace Go.Sh
open Go.Ab
def twE (b:Book) (l:List Sday):Int:=openE b (decide ((l.length:Int)<=20))
def twL (b:Book) (l:List Sday):List Int:=if okBook b && decide ((l.length:Int)<=20) then twiceB b l else []
def worthN (b:Book) (ls:List Int) (c:Int):Int:=if okBook b && (isCt b c && areLnB b ls) then (bestB (woC b c.toNat) ls).2 - (bestB b ls).2 else 0
def buyN (b:Book) (c:Int):Int:=if okBook b && isCt b c then buyB b c else 0
def measN (b:Book):Int:=if okBook b && decide (0 < b.lines.length) then (measTo b b.lines.length).1 else 0
def measE (b:Book):Int:=if okBook b then (if 0 < b.lines.length then 0 else 3) else 80
def rowL8 (b:Book) (i n q:Nat):Int:=rowL b.lines i n q
def cutC (l:List Ctr) (c:Nat):List Ctr:=l.take c ++ l.drop (c + 1)
def cntTo (b:Book) (i k j:Nat):Span:=if j=i/\0 < k then ⟨(lnB b i).lo + k - 1,(lnB b i).lo + k - 1⟩ else lnB b j
end Go.Sh
namespace Go.En
open Go Go.Ab Go.Sh
def aCtrs (l:List Ctr):AV := .sl 4 l.length (fun i=>cCtr (l.getD i default))
def aSpans (l:List Span):AV := .sl 2 l.length (fun i=>cSpan (l.getD i default))
end Go.En
namespace Go.Ab
open Go Go.RowKit Go.Proofs Go.Sh Go.En
theorem triple_pre {P:Program} {f:FuncId} {s:CallSpec} {q:Prop} (h:Triple P f s) (hq:q->s.pre):Triple P f { s with pre:=q }:=⟨h.1,fun hx=>h.2 (hq hx)⟩
abbrev rowCt (l:List Ctr):OB := .vec 68 4 l.length (fun i=>cCtr (l.getD i default))
abbrev rowSp (l:List Span):OB := .vec 41 2 l.length (fun i=>cSpan (l.getD i default))
abbrev cBox (b:Book):OB := .cells 71 [.sl 2 b.lines.length (fun i=>cSpan (lnB b i)),.sl 3 b.shown.length (fun i=>cShn (shB b i)),iv b.rate,iv b.rep,.sl 4 b.ctrs.length (fun i=>cCtr (ctB b i)),aDays (stds b)]
def s29 (b:Book) (l:List Sday):CallSpec:={ args:=[vBk b,aDays l],res := .tup [aInts (twL b l),iv (twE b l)],pre:=smallB b/\l.length<=60000 }
def h29 (b:Book) (l:List Sday):Hint:={ X:=Nat,M:=fun i=>[(8,.vec 5000),(24,iv i)],H:=fun i=>[(5000,rowZ (twiceTo b l i))],I:=fun i=>i<=l.length,mu:=fun i=>l.length - i,x0:=(0:Nat),nx:=fun i=>i + 1 }
def c29a (b:Book) (l:List Sday) (i:Nat):CallSpec:=s59 (stds b) (l.getD i default)
def c29b (b:Book) (l:List Sday) (i:Nat):CallSpec:=s59 (l.take i) (l.getD i default)
-- the library's functions at standings
def io43p (b:Book) (is:Bool):IoSpec:={ args:=[vBk b,bv is],pre:=smallB b/\okBook b=true/\is=true,res := .tup [.ptr 2 [],iv 0],hout:=[(2,cBox b)] }
def s43po (b:Book) (is:Bool) (id:Nat):CallSpec:=(io43p b is).at [(2,id)]
def h43d (b:Book) (is:Bool):Hint:={ X:=Nat,M:=fun i=>[(23,iv i)],H:=fun i=>[(98,.cells 71 [.sl 2 b.lines.length (fun i=>cSpan (lnB b i)),.sl 3 b.shown.length (fun i=>cShn (shB b i)),iv b.rate,iv b.rep,.sl 4 b.ctrs.length (fun i=>cCtr (ctB b i)),.vec 5000]),(5000,rowS ((rawD b).take i))],I:=fun i=>i<=b.shown.length,mu:=fun i=>b.shown.length - i,x0:=(0:Nat),nx:=fun i=>i + 1 }
def io31p (b:Book) (ls:List Int) (is:Bool):IoSpec:={ args:=[vBk b,aInts ls,bv is],pre:=smallB b/\ls.length<=60000/\okBook b=true/\is=true/\areLnB b ls=true,res := .tup [.ptr 2 [],iv 0],hout:=[(2,cBox b)] }
def s31po (b:Book) (ls:List Int) (is:Bool) (id:Nat):CallSpec:=(io31p b ls is).at [(2,id)]
def c31p (b:Book) (ls:List Int) (is:Bool) (id:Nat):CallSpec:=s43po b true id
-- Missing
-- Worth
def ou40 (cs:List Ctr):OutSpec:={ args:=[aCtrs cs],pre:=0 < cs.length/\cs.length<=60000,res := .vec 0,hout:=[(0,rowCt cs)] }
def s40o (l:List Ctr) (id:Nat):CallSpec:=(ou40 l).at [(0,id)]
def ou50 (cs:List Span):OutSpec:={ args:=[aSpans cs],pre:=0 < cs.length/\cs.length<=60000,res := .vec 0,hout:=[(0,rowSp cs)] }
def s50o (l:List Span) (id:Nat):CallSpec:=(ou50 l).at [(0,id)]
def focM:CallSpec:={ args:=[],hin:=[(0,.cells 0 [])],res := .any }
def io39a (cs:List Ctr) (c:Nat):IoSpec:={ args:=[.vec 0,iv c,iv ((c:Int) + 1)],pre:=c + 1 < cs.length/\cs.length<=64,hin:=[(0,rowCt cs)],res := .vec 3,hout:=[(3,rowCt (cutC cs c))] }
def io39b (cs:List Ctr) (c:Nat):IoSpec:={ args:=[.vec 0,iv c,iv ((c:Int) + 1)],pre:=c + 1=cs.length/\cs.length<=64,hin:=[(0,rowCt cs)],res := .vec 3,hout:=[(3,rowCt (cutC cs c))] }
def s39 (b:Nat) (cs:List Ctr) (c:Nat) (id:Nat):CallSpec:={ args:=[.vec b,iv c,iv ((c:Int) + 1)],pre:=c < cs.length/\cs.length<=64,hin:=[(b,rowCt cs)],res := .vec id,hout:=[(id,rowCt (cutC cs c))] }
def s15g (b:Book) (ls:List Int) (c:Int):CallSpec:={ args:=[vBk b,aInts ls,iv c],res := .tup [iv ((bestB (woC b c.toNat) ls).2 - (bestB b ls).2),iv 0],pre:=smallB b/\ls.length<=60000/\(okBook b && (isCt b c && areLnB b ls))=true }
def s15n (b:Book) (ls:List Int) (c:Int):CallSpec:={ args:=[vBk b,aInts ls,iv c],res := .tup [iv 0,iv (givenE b ls (isCt b c))],pre:=smallB b/\ls.length<=60000/\(okBook b && (isCt b c && areLnB b ls))=false }
def s15 (b:Book) (ls:List Int) (c:Int):CallSpec:={ args:=[vBk b,aInts ls,iv c],res := .tup [iv (worthN b ls c),iv (givenE b ls (isCt b c))],pre:=smallB b/\ls.length<=60000 }
def c15c (b:Book) (ls:List Int) (c:Int) (id:Nat):CallSpec:=s31po b ls true id
def c15a (b:Book) (ls:List Int) (c:Int) (id:Nat):CallSpec:=lendP 71 64 0 (s32o b ls id)
def c15l (b:Book) (ls:List Int) (c:Int) (id:Nat):CallSpec:=s40o b.ctrs id
def c15d (b:Book) (ls:List Int) (c:Int) (id:Nat):CallSpec:=s39 216 b.ctrs c.toNat id
def c15b (b:Book) (ls:List Int) (c:Int) (id:Nat):CallSpec:=lendP 71 64 0 (s32o (woC b c.toNat) ls id)
-- Measure
def s22 (b:Book):CallSpec:={ args:=[vBk b],res := .tup [iv (measN b),iv (measE b)],pre:=smallB b }
def s22g (b:Book):CallSpec:={ args:=[vBk b],res := .tup [iv (measN b),iv (measE b)],pre:=smallB b/\okBook b=true }
def s22n (b:Book):CallSpec:={ args:=[vBk b],res := .tup [iv (measN b),iv (measE b)],pre:=smallB b/\okBook b=false }
def c22p (b:Book) (id:Nat):CallSpec:=s43po b true id
def h22a (b:Book):Hint:={ X:=Nat,M:=fun i=>[(6,iv (measTo b i).1),(7,iv (measTo b i).2),(25,iv i)],I:=fun i=>i<=b.lines.length,mu:=fun i=>b.lines.length - i,x0:=(0:Nat),nx:=fun i=>i + 1 }
def h22b (b:Book) (i:Nat):Hint:={ X:=Nat,M:=fun k=>[(10,iv (worstTo b i k)),(12,iv ((lnB b i).lo + k))],H:=fun k=>[(10264,.vec 41 2 b.lines.length (fun j=>cSpan (cntTo b i k j)))],I:=fun k=>k<=lnN b i,mu:=fun k=>lnN b i - k,x0:=(0:Nat),nx:=fun k=>k + 1 }
def c22c (b:Book) (i:Nat) (id:Nat):CallSpec:=s50o b.lines id
def c22o (b:Book) (i k:Nat):CallSpec:=lendV 71 41 10232 10264 0 0 (s44 (cntB b i ((lnB b i).lo + k)))
-- Buy
def s20 (b:Book) (c:Int):CallSpec:={ args:=[vBk b,iv c],res := .tup [iv (buyN b c),iv (openE b (isCt b c))],pre:=smallB b }
def h20a (b:Book) (c:Int):Hint:={ X:=Nat,M:=fun _=>[(4,.vec 5000)],H:=fun i=>[(96,.cells 56 [.opt (okBook b && isCt b c) (cWk b)]),(136,.cells 3 [iv (soTo b c i)]),(144,.cells 3 [iv ((i:Int) - soTo b c i)]),(5000,rowZ (trN b i))],I:=fun i=>i < nTr b,mu:=fun i=>nTr b - i,x0:=(0:Nat),nx:=fun i=>i + 1 }
def h20b (b:Book) (c:Int) (i:Nat):Hint:={ X:=Nat,M:=fun n=>[(6,iv n)],H:=fun n=>[(5000,.vec 3 1 b.lines.length (fun q=>[iv (rowL8 b i n q)]))],I:=fun n=>n<=b.lines.length /\ ∀ q,q < n->(trN b i).getD q 0=(lnB b q).hi,mu:=fun n=>b.lines.length - n,x0:=(0:Nat),nx:=fun n=>n + 1 }
def r20 (b:Book) (c:Int):RangeH:={ J:=Nat,ok:=fun i=>i < nTr b,Y:=fun i=>{ args:=[.vec 5000],hin:=[(96,.cells 56 [.opt (okBook b && isCt b c) (cWk b)]),(136,.cells 3 [iv (soTo b c i)]),(144,.cells 3 [iv ((i:Int) - soTo b c i)]),(5000,rowZ (trN b i))],res:=bv true,hout:=[(96,.cells 56 [.opt (okBook b && isCt b c) (cWk b)]),(136,.cells 3 [iv (soTo b c (i + 1))]),(144,.cells 3 [iv (((i + 1:Nat):Int) - soTo b c (i + 1))]),(5000,rowZ (trN b i))] },hp:=[(96,.cells 56 [.opt (okBook b && isCt b c) (cWk b)]),(136,.cells 3 [iv (soTo b c (nTr b))]),(144,.cells 3 [iv ((nTr b:Int) - soTo b c (nTr b))])] }
def y20 (b:Book) (c:Int) (i:Nat):CallSpec:=(r20 b c).Y i
def c20e (b:Book) (c:Int) (id:Nat):CallSpec:=s77o b id
def c20b (b:Book) (c:Int) (i:Nat) (id:Nat):CallSpec:=lendS 3 5000 1 none (s36o b (trN b i) id)
def c20c (b:Book) (c:Int) (i:Nat):CallSpec:=s47 (boughtB b (trN b i)) c
end Go.Ab
