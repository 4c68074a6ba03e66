/- Part 5 of the proof: own library, plain forms and walks. -/
import Derived.Test.YtcbgfmalillplaaQClearer4
import Derived.Sort.Grow
import Derived.Lib.SlicesCompact
set_option linter.all false
set_option linter.deprecated false
namespace Go.Sh
def sortI (l:List Int):List Int:=l.mergeSort (fun x y=>decide (x<=y))
theorem sortI_len (l:List Int):(sortI l).length=l.length:=List.length_mergeSort _
def compactI (l:List Int):List Int:=Go.Lib.compact l
theorem compact_le (l:List Int):(compactI l).length<=l.length:=by
 unfold compactI Go.Lib.compact Go.Lib.compactUpTo
 rw [List.length_map]
 exact Nat.le_trans (List.length_filter_le _ _) (by simp)
end Go.Sh
namespace Go.Ab
open Go Go.RowKit Go.Sort Go.Sh
theorem putRow_heap {α:Type} [Inhabited α] (enc:α->Value) (w:World) (q k:Nat) (ys:List α) (os:Array Obj) (us:List Value) (e:TypeId) (hw:w.heap[k]? = some (.cells us.toArray e (0,0))) (hl:ys.length<=us.length) :
  (grow (putRow enc (Sort.ahead w q) k 0 ys.toArray) os).heap[k]? = some (.cells (ys.map enc ++ us.drop ys.length).toArray e (0,0))/\w.grownBy (grow (putRow enc (Sort.ahead w q) k 0 ys.toArray) os) (some k):=by
 have hlt:k < w.heap.size:=(Array.getElem?_eq_some_iff.1 hw).1
 have hsz:(putRow enc (Sort.ahead w q) k 0 ys.toArray).heap.size=w.heap.size:=by simp [putRow,mapBlock,Sort.ahead]
 refine ⟨?_,⟨rfl,rfl,rfl,by rw [size_grow,hsz]; omega,fun j hj hne => ?_⟩⟩
 ·rw [heap_grow_old _ _ (by rw [hsz]; exact hlt)]
  show ((Sort.ahead w q).heap.modify k _)[k]? = _
  have hw':(Sort.ahead w q).heap[k]? = some (.cells us.toArray e (0,0)):=hw
  rw [Array.getElem?_modify,if_pos rfl,hw']
  simp only [Option.map_some,onCells,Option.some.injEq,Obj.cells.injEq,and_true]
  apply Array.ext_getElem?
  intro i
  simp only [putCells,Array.getElem?_mapIdx,List.getElem?_toArray,List.size_toArray,Nat.zero_le,true_and,Nat.zero_add,Nat.sub_zero]
  by_cases h1:i < ys.length
  ·rw [List.getElem?_append_left (by simpa using h1),List.getElem?_map,List.getElem?_eq_getElem h1,List.getElem?_eq_getElem (show i < us.length by omega)]
   simp only [Option.map_some,if_pos h1]
   rw [getElem!_pos _ i (by simpa using h1)]
   simp
  ·rw [List.getElem?_append_right (by simpa using h1),List.getElem?_drop]
   have:ys.length + (i - (List.map enc ys).length)=i:=by simp; omega
   rw [this]
   cases us[i]? with
   | none=>rfl
   | some u=>simp only [Option.map_some,if_neg h1]
 ·rw [heap_grow_old _ _ (by rw [hsz]; exact hj)]
  show ((Sort.ahead w q).heap.modify k _)[j]? = _
  rw [Array.getElem?_modify,if_neg (fun e=>hne (by rw [e]))]
  rfl
def rowI (t:TypeId) (l:List Int):OB := .vec t 1 l.length (fun i=>[iv (l.getD i 0)])
theorem rowI_flat {E:Env} {l:List Int} {g:Nat->List Value} (hr:∀ i,i < l.length->RelL E false [iv (l.getD i 0)] (g i)):(List.range l.length).flatMap g=l.map (Value.int .i64):=by
 have h1:∀ i,i < l.length->g i = [Value.int .i64 (l.getD i 0)]:=by
  intro i hi
  have:=hr i hi
  generalize g i=x at this
  cases this with
  | cons h _ hs=>cases hs; cases h; rfl
 refine List.ext_getElem? fun i => ?_
 have hlen:=flat_length g 1 l.length (fun i hi=>by rw [h1 i hi]; rfl)
 by_cases hi:i < l.length
 ·have:=flat_get g 1 l.length (fun i hi=>by rw [h1 i hi]; rfl) i 0 hi (by omega)
  simp only [Nat.mul_one,Nat.add_zero] at this
  rw [this,h1 i hi,List.getElem?_map,List.getElem?_eq_getElem hi]
  simp [List.getD,List.getElem?_eq_getElem hi]
 ·rw [List.getElem?_eq_none (by omega),List.getElem?_eq_none (by simpa using hi)]
theorem rowI_rel (E:Env) (l:List Int):∀ i,i < l.length->RelL E false [iv (l.getD i 0)] [Value.int .i64 (l.getD i 0)]:=fun i _ => .cons (.lit _) rfl .nil
theorem rowI_flat' (l:List Int):(List.range l.length).flatMap (fun i=>[Value.int .i64 (l.getD i 0)])=l.map (Value.int .i64):=by
 let E0:Env:=⟨fun _=>none,fun _=>none,fun _=>none,fun _ _=>False⟩
 exact rowI_flat (E:=E0) (rowI_rel E0 l)
theorem holdsI {w:World} {k:Nat} {l:List Int} {us:List Value} {e:TypeId} (hw:w.heap[k]? = some (.cells us.toArray e (0,0))) (ht:us.take l.length=l.map (Value.int .i64)):Holds (Value.int .i64) w k 0 l.toArray:=by
 intro j hj
 have hj':j < l.length:=by simpa using hj
 have h1:us[j]? = some (.int .i64 l[j]):=by
  have:=congrArg (fun x=>x[j]?) ht
  simp only [List.getElem?_take,if_pos hj',List.getElem?_map,List.getElem?_eq_getElem hj',Option.map_some] at this
  exact this
 refine ⟨?_,?_⟩
 ·rw [Nat.zero_add,getElem!_pos _ j hj]
  simp only [World.cell?,hw]
  simpa using h1
 ·simp only [World.frozen?,hw]
  rfl
theorem own_rowI {C:Ctx} {E:Env} {w:World} {b:Nat} {t:TypeId} {l:List Int} (h:OwnOB C E w b (rowI t l)) (hn:0 < l.length) :
  ∃ k cap us,E.hdr b=some (.slice (some ⟨k,0,none⟩) l.length cap)/\l.length<=cap/\cap<=maxLen/\w.heap[k]? = some (.cells (List.toArray us) t (0,0))/\us.length=cap/\us.take l.length=l.map (Value.int .i64)/\E.blk b=some k/\C.avail k/\E.M k=none:=by
 obtain ⟨hd,g,hh,ho,hl,hr,hbk,hav⟩:=h
 rcases ownsRow_form ho with ⟨_,h0⟩ | ⟨k,cap,rfl,hnc,hcm,us,hw,hul,hut⟩
 ·omega
 ·rw [Nat.mul_one] at hul hut
  rw [rowI_flat hr] at hut
  exact ⟨k,cap,us,hh,hnc,hcm,hw,hul,hut,hbk,(hav k rfl).1,(hav k rfl).2⟩
theorem ownsRow_of {w:World} {k cap:Nat} {us:List Value} {t:TypeId} {l:List Int} (hw:w.heap[k]? = some (.cells us.toArray t (0,0))) (hnc:l.length<=cap) (hcm:cap<=maxLen) (hul:us.length=cap) (hut:us.take l.length=l.map (Value.int .i64)) :
  w.ownsRow 0 t 1 (.slice (some ⟨k,0,none⟩) l.length cap) l.length ((List.range l.length).flatMap (fun i=>[Value.int .i64 (l.getD i 0)])):=by
 rw [rowI_flat']
 refine ⟨by simp,.inr ⟨k,cap,us.toArray,rfl,Nat.zero_le _,hw,hnc,hcm,by simpa using hul,by simpa using hut⟩⟩
theorem triple_sort {P:Program} {f:FuncId} (hcall:Callable P f) (t:TypeId) (b:Nat) (l:List Int)
  (h:∀ k cap w,Holds (Value.int .i64) w k 0 l.toArray->k < w.heap.size->l.length < 4611686018427387904->Calls P f #[.slice (some ⟨k,0,none⟩) l.length cap] w fun e w'=>e = .returned (.tuple #[]) /\ ∃ n os,w'=grow (putRow (Value.int .i64) (Sort.ahead w n) k 0 (sortI l).toArray) os) :
  Triple P f { args:=[.vec b],pre:=0 < l.length/\l.length<=65536,hin:=[(b,rowI t l)],res := .tup [],hout:=[(b,rowI t (sortI l))] }:=by
 refine ⟨hcall,fun hpre E w vs _ hok hlen hrel _ => ?_⟩
 obtain ⟨v,rfl⟩:∃ v,vs = [v]:=by
  match vs,hlen with
  | [v],_=>exact ⟨v,rfl⟩
 have hv:=hrel 0
 simp only [List.getD_cons_zero] at hv
 have hob:Heap.of [(b,rowI t l)] b=some (rowI t l):=by rw [Heap.of_cons,if_pos rfl]
 obtain ⟨k,cap,us,hh,hnc,hcm,hw,hul,hut,hbk,hav,hM⟩:=own_rowI (hok.own b _ hob) hpre.1
 cases hv with
 | vec _ hh' _ =>
 rw [hh] at hh'
 cases hh'
 have hlt:k < w.heap.size:=(Array.getElem?_eq_some_iff.1 hw).1
 refine (h k cap w (holdsI hw hut) hlt (by omega)).mono ?_
 rintro e w' ⟨rfl,n,os,rfl⟩
 obtain ⟨h1,hg⟩:=putRow_heap (Value.int .i64) w n k (sortI l) os us t hw (by rw [sortI_len]; omega)
 refine ⟨_,E,rfl,?_,.tup rfl (fun k=>by simp; exact .any _),fun _ _=>⟨rfl,rfl⟩⟩
 have:=hok.setVec b k (by rw [hob]; simp) hbk hav hM hg (rowI t (sortI l)) ?_
 ·refine this.drop fun i ob hi => ?_
  rw [Heap.of_cons] at hi
  split at hi
  ·rename_i e; cases hi; unfold Heap.put; rw [if_pos e.symm]
  ·cases hi
 ·refine ⟨_,fun i=>[Value.int .i64 ((sortI l).getD i 0)],hh,?_,fun _ _=>rfl,rowI_rel E _,hbk,fun k' hk' => ?_⟩
  ·have:=ownsRow_of (l:=sortI l) (cap:=cap) h1 (by rw [sortI_len]; exact hnc) hcm (by simp [sortI_len,hul]; omega) (by rw [List.take_append_of_le_length (by rw [List.length_map]; exact Nat.le_refl _)]; exact List.take_of_length_le (by rw [List.length_map]; exact Nat.le_refl _))
   rw [sortI_len] at this ⊢
   exact this
  ·cases hk'; exact ⟨hav,hM⟩
theorem triple_compact {P:Program} {f:FuncId} (hcall:Callable P f) (t:TypeId) (b:Nat) (l:List Int)
  (h:∀ k cap w,Holds (Value.int .i64) w k 0 l.toArray->l.length<=9223372036854775807->l.length<=cap->Calls P f #[.slice (some ⟨k,0,none⟩) l.length cap] w fun e w'=>e = .returned (.slice (some ⟨k,0,none⟩) (Lib.compact l).length cap) /\ ∃ q,w'=putRow (Value.int .i64) (Sort.ahead w q) k 0 (Lib.compact l ++ List.replicate (l.length - (Lib.compact l).length) 0).toArray)
  (hc:(compactI l).length<=l.length) :
  Triple P f { args:=[.vec b],pre:=0 < l.length/\l.length<=65536,hin:=[(b,rowI t l)],res := .sl 1 (compactI l).length (fun i=>[iv ((compactI l).getD i 0)]),hout:=[] }:=by
 replace hc:(Lib.compact l).length<=l.length:=hc
 show Triple P f { args:=[.vec b],pre:=0 < l.length/\l.length<=65536,hin:=[(b,rowI t l)],res := .sl 1 (Lib.compact l).length (fun i=>[iv ((Lib.compact l).getD i 0)]),hout:=[] }
 refine ⟨hcall,fun hpre E w vs _ hok hlen hrel _ => ?_⟩
 obtain ⟨v,rfl⟩:∃ v,vs = [v]:=by
  match vs,hlen with
  | [v],_=>exact ⟨v,rfl⟩
 have hv:=hrel 0
 simp only [List.getD_cons_zero] at hv
 have hob:Heap.of [(b,rowI t l)] b=some (rowI t l):=by rw [Heap.of_cons,if_pos rfl]
 obtain ⟨k,cap,us,hh,hnc,hcm,hw,hul,hut,hbk,hav,hM⟩:=own_rowI (hok.own b _ hob) hpre.1
 cases hv with
 | vec _ hh' _ =>
 rw [hh] at hh'
 cases hh'
 refine (h k cap w (holdsI hw hut) (by omega) hnc).mono ?_
 rintro e w' ⟨rfl,q,rfl⟩
 let ys:=Lib.compact l ++ List.replicate (l.length - (Lib.compact l).length) 0
 have hys:ys.length=l.length:=by simp [ys]; omega
 obtain ⟨h1,hg⟩:=putRow_heap (Value.int .i64) w q k ys #[] us t hw (by omega)
 rw [grow_empty] at h1 hg
 have hown:=hok.setVec b k (by rw [hob]; simp) hbk hav hM hg (rowI t ys) ⟨_,fun i=>[Value.int .i64 (ys.getD i 0)],by rw [hh,← hys],ownsRow_of (l:=ys) (cap:=cap) h1 (by omega) hcm (by simp [hul]; omega) (by rw [List.take_append_of_le_length (by rw [List.length_map]; exact Nat.le_refl _)]; exact List.take_of_length_le (by rw [List.length_map]; exact Nat.le_refl _)),fun _ _=>rfl,rowI_rel E _,hbk,fun k' hk'=>by cases hk'; exact ⟨hav,hM⟩⟩
 have hfz:=hown.freeze b k _ (by unfold Heap.put; rw [if_pos rfl]; simp) hbk hav hM h1
 refine ⟨_,E.freeze k (.cells (ys.map (Value.int .i64) ++ us.drop ys.length).toArray t (0,0)),rfl,?_,?_,fun _ _=>⟨rfl,rfl⟩⟩
 ·refine hfz.drop fun i ob hi => ?_
  cases hi
 ·refine .slA 1 _ _ k 0 cap (fun i=>[Value.int .i64 ((Lib.compact l).getD i 0)]) (by omega) hcm (fun _ _=>rfl) (fun i j hi hj => ?_) (fun i hi => .cons (.lit _) rfl .nil)
  have hj0:j=0:=by omega
  subst hj0
  simp only [mcell,frozen_self,Nat.zero_add,Nat.mul_one,Nat.add_zero,List.getElem?_toArray,List.getElem?_cons_zero]
  have hlt:i < (ys.map (Value.int .i64)).length:=by rw [List.length_map,hys]; omega
  rw [List.getElem?_append_left hlt,List.getElem?_map]
  simp only [ys,List.getElem?_append_left hi,List.getElem?_eq_getElem hi,Option.map_some]
  simp [List.getD,List.getElem?_eq_getElem hi]
end Go.Ab
namespace Go.Sh
def wfTo (l:List WayS) (f n:Nat):List Int:=(l.take n).map (fun w=>w.frm.getD f 0)
def wf (l:List WayS) (f:Nat):List Int:=l.map (fun w=>w.frm.getD f 0)
theorem wfTo_succ {l:List WayS} {f n:Nat} (h:n < l.length):wfTo l f (n + 1)=wfTo l f n ++ [(l.getD n default).frm.getD f 0]:=by
 unfold wfTo; rw [Go.Ab.take_succ _ default h,List.map_append]; rfl
theorem wfTo_len {l:List WayS} {f n:Nat} (h:n<=l.length):(wfTo l f n).length=n:=by
 unfold wfTo; rw [List.length_map,List.length_take]; omega
theorem wfTo_full {l:List WayS} {f n:Nat} (h:l.length<=n):wfTo l f n=wf l f:=by
 unfold wfTo wf; rw [List.take_of_length_le h]
theorem wf_len (l:List WayS) (f:Nat):(wf l f).length=l.length:=by simp [wf]
def whereP (l:List WayS) (f:Nat):List Int:=compactI (sortI (wf l f))
def whereS (r:Run) (f:Int):List Int:=if openE r (isFound r f)=0 then whereP (waysOf r) f.toNat else []
end Go.Sh
namespace Go.Ab
open Go Go.RowKit Go.Proofs Go.Sh Go.En
def s119 (b:Nat) (l:List Int):CallSpec:={ args:=[.vec b],pre:=0 < l.length/\l.length<=65536,hin:=[(b,rowI 3 l)],res := .tup [],hout:=[(b,rowI 3 (sortI l))] }
theorem t119 (b:Nat) (l:List Int):Triple Try.prog 119 (s119 b l):=triple_sort Try.call119 3 b l (fun k cap w h1 h2 h3=>Try.slices_Sort_int k 0 cap l w h1 h2 h3)
def s120 (b:Nat) (l:List Int):CallSpec:={ args:=[.vec b],pre:=0 < l.length/\l.length<=65536,hin:=[(b,rowI 3 l)],res:=aInts (compactI l),hout:=[] }
theorem t120 (b:Nat) (l:List Int):Triple Try.prog 120 (s120 b l):=triple_compact Try.call120 3 b l (fun k cap w h1 h2 h3=>Try.slices_Compact_int k 0 cap l w h1 h2 h3) (compact_le l)
def s90 (l:List WayS) (f:Nat):CallSpec:={ args:=[aWays l,iv f],res:=aInts (whereP l f),pre:=0 < l.length/\l.length<=729 /\ ∀ x,x < l.length->f < (l.getD x default).frm.length }
def h90 (l:List WayS) (f:Nat):Hint:={ X:=Nat,M:=fun i=>[(10,iv i),(5,.vec 5000)],H:=fun i=>[(5000,rowI 3 (wfTo l f i))],I:=fun i=>i<=l.length,mu:=fun i=>l.length - i,x0:=(0:Nat),nx:=fun i=>i + 1 }
def c90a (l:List WayS) (f:Nat):CallSpec:=s119 5000 (wf l f)
def c90b (l:List WayS) (f:Nat):CallSpec:=s120 5000 (sortI (wf l f))
def s35 (r:Run) (f:Int):CallSpec:={ args:=[vRun r,iv f],res := .tup [aInts (whereS r f),iv (openE r (isFound r f))],pre:=fits r }
def c35o (r:Run) (f:Int):CallSpec:=s78 r (isFound r f)
def c35 (r:Run) (f:Int):CallSpec:=s90 (openL r (isFound r f)) f.toNat
end Go.Ab
namespace Go.Ab
open Go Go.RowKit Go.Proofs Go.Sh Go.En
abbrev q90_1 (l:List WayS) (f:Nat) (C:Prop):Prop:=(0 < l.length/\l.length<=729 /\ ∀ (x:Nat),x < l.length->f < (l.getD x default).frm.length)->C
abbrev q90_2 (l:List WayS) (f:Nat) (C:Nat->Prop):Prop:=q90_1 l f (∀ (x0:Nat),x0<=l.length->decide ((x0:Int) < (↑(l.length):Int))=true->C x0)
abbrev q90_3 (l:List WayS) (f:Nat) (C:Nat->Prop):Prop:=q90_1 l f (∀ (x0:Nat),x0<=l.length->decide ((x0:Int) < (↑(l.length):Int))=false->C x0)
theorem w90 (l:List WayS) (f:Nat)
 (o0:q90_1 l f (0=(↑0:Int)))
 (o1:q90_1 l f ((wfTo l f 0).length=0))
 (o2:q90_1 l f (0<=l.length))
 (o3:q90_2 l f fun x0=>0<=(x0:Int))
 (o4:q90_2 l f fun x0=>(x0:Int) < (↑(l.length):Int))
 (o5:q90_2 l f fun x0=>0<=(f:Int))
 (o6:q90_2 l f fun x0=>(f:Int) < (↑((l.getD x0 default).frm.length):Int))
 (o7:q90_2 l f fun x0=>(wfTo l f x0).length + 1<=65536)
 (o8:q90_2 l f fun x0=>inI ((x0:Int) + 1))
 (o9:q90_2 l f fun x0=>(x0:Int) + 1=(↑(x0 + 1):Int))
 (o10:q90_2 l f fun x0=>(wfTo l f x0).length + 1=(wfTo l f (x0 + 1)).length)
 (o11:q90_2 l f fun x0 => ∀ (i2:Nat),i2 < (wfTo l f x0).length + 1->catF (wfTo l f x0).length (fun (i:Nat)=>[iv ((wfTo l f x0).getD i 0)]) (fun (j:Nat)=>List.getD [[iv ((l.getD x0 default).frm.getD f 0)]] j (TI.za ti3)) i2 = [iv ((wfTo l f (x0 + 1)).getD i2 0)])
 (o12:q90_2 l f fun x0=>x0 + 1<=l.length)
 (o13:q90_2 l f fun x0=>l.length - (x0 + 1) < l.length - x0)
 (o14:q90_3 l f fun x0=>(wfTo l f x0).length=(wf l f).length)
 (o15:q90_3 l f fun x0 => ∀ (i4:Nat),i4 < (wfTo l f x0).length -> [iv ((wfTo l f x0).getD i4 0)] = [iv ((wf l f).getD i4 0)])
 (o16:q90_3 l f fun x0=>0 < (wf l f).length)
 (o17:q90_3 l f fun x0=>(wf l f).length<=65536)
 (o18:q90_3 l f fun x0=>0 < (sortI (wf l f)).length)
 (o19:q90_3 l f fun x0=>(sortI (wf l f)).length<=65536)
 (o20:q90_3 l f fun x0=>(compactI (sortI (wf l f))).length=(whereP l f).length)
 (o21:q90_3 l f fun x0 => ∀ (i8:Nat),i8 < (whereP l f).length -> [iv ((compactI (sortI (wf l f))).getD i8 0)] = [iv ((whereP l f).getD i8 0)]) :
  Triple Try.prog 90 (s90 l f):=by
 refine triple_of Try.func90 rfl Try.call90 T0_ok _ rfl rfl rfl rfl (Nat.le_of_ble_eq_true (by kernel_rfl)) (fun _ _ _ _ h=>h) ?_
 intro hp C hC _ hE
 obtain ⟨P,w0,E0,av,hA⟩:=C
 subst hC
 refine swp_seq ?_
 refine sR (kt:=[0,1]) (kh:=[]) (q:=True/\True) (st':=ASt.mk [(0,aWays l),(1,iv (f:Int))] [] 8) (by kernel_rfl) ⟨tv,tv⟩ ?_
 refine swp_seq ?_
 refine sR (kt:=[0,1,5]) (kh:=[]) (q:=True/\True) (st':=ASt.mk [(0,aWays l),(1,iv (f:Int)),(5,nilv)] [] 16) (by kernel_rfl) ⟨tv,tv⟩ ?_
 refine swp_seq (swp_seq ?_)
 refine sR (kt:=[1,5,8,9,10]) (kh:=[]) (q:=True/\True/\True/\True) (st':=ASt.mk [(1,iv (f:Int)),(5,nilv),(8,aWays l),(9,iv (↑(l.length):Int)),(10,iv 0)] [] 40) (by kernel_rfl) ⟨tv,tv,tv,tv⟩ ?_
 refine swp_block ?_
 refine swp_loopA (Hint.ann (h90 l f) [(1,iv (f:Int)),(8,aWays l),(9,iv (↑(l.length):Int))] [] 10040) (ent_q hE [] [(5000,.nil)] [1,8,9] [] (((iv (f:Int)=iv (f:Int)/\true=true)/\(aWays l=aWays l/\true=true)/\(iv (↑(l.length):Int)=iv (↑(l.length):Int)/\true=true)/\(iv 0=iv (↑0:Int)/\nilN = [])/\some Src.nil=some Src.nil/\True)/\((wfTo l f 0).length=0/\True)/\T2) (by kernel_rfl) (by kernel_rfl) ⟨⟨⟨rfl,rfl⟩,⟨rfl,rfl⟩,⟨rfl,rfl⟩,⟨(congrArg iv (o0 hp)),rfl⟩,rfl,tv⟩,⟨(o1 hp),tv⟩,rfl,rfl⟩) (o2 hp) (fun (x0:Nat) hx0 => ?_)
 refine swp_seq ?_
 refine sR (kt:=[1,8,9,10,5,11]) (kh:=[5000]) (q:=True/\True) (st':=ASt.mk [(1,iv (f:Int)),(8,aWays l),(9,iv (↑(l.length):Int)),(10,iv (x0:Int)),(5,.vec 5000),(11,bv (decide ((x0:Int) < (↑(l.length):Int))))] [(5000,.vec 3 1 (wfTo l f x0).length fun (i:Nat)=>[iv ((wfTo l f x0).getD i 0)])] 10048) (by kernel_rfl) ⟨tv,tv⟩ ?_
 refine swp_seq ?_
 refine swp_cond (decide ((x0:Int) < (↑(l.length):Int))) (by kernel_rfl) (fun h1 => ?_) (fun h1 => ?_)
 ·refine swp_skip (swp_seq (swp_block (swp_seq ?_)))
  refine sR (kt:=[1,8,9,10,5,7]) (kh:=[5000,10064]) (q:=(0<=(x0:Int)/\(x0:Int) < (↑(l.length):Int))/\True/\True/\True/\True) (st':=ASt.mk [(1,iv (f:Int)),(8,aWays l),(9,iv (↑(l.length):Int)),(10,iv (x0:Int)),(5,.vec 5000),(7,.ptr 10064 [])] [(5000,.vec 3 1 (wfTo l f x0).length fun (i:Nat)=>[iv ((wfTo l f x0).getD i 0)]),(10064,.cells 107 (cWay (l.getD x0 default)))] 10080) (by kernel_rfl) ⟨⟨(o3 hp x0 hx0 h1),(o4 hp x0 hx0 h1)⟩,tv,tv,tv,tv⟩ ?_
  refine sR (kt:=[1,8,9,10,5]) (kh:=[10136]) (q:=True/\True/\True/\True/\(0<=(f:Int)/\(f:Int) < (↑((l.getD x0 default).frm.length):Int))/\True/\True/\(wfTo l f x0).length + 1<=65536/\True/\True) (st':=ASt.mk [(1,iv (f:Int)),(8,aWays l),(9,iv (↑(l.length):Int)),(10,iv (x0:Int)),(5,.vec 10136)] [(10136,.vec 3 1 ((wfTo l f x0).length + 1) (catF (wfTo l f x0).length (fun (i:Nat)=>[iv ((wfTo l f x0).getD i 0)]) fun (j:Nat)=>List.getD [[iv ((l.getD x0 default).frm.getD f 0)]] j (TI.za ti3)))] 10152) (by kernel_rfl) ⟨tv,tv,tv,tv,⟨(o5 hp x0 hx0 h1),(o6 hp x0 hx0 h1)⟩,tv,tv,(o7 hp x0 hx0 h1),tv,tv⟩ ?_
  refine sR (kt:=[1,8,9,10,5]) (kh:=[10136]) (q:=inI ((x0:Int) + 1)/\True/\True) (st':=ASt.mk [(1,iv (f:Int)),(8,aWays l),(9,iv (↑(l.length):Int)),(10,iv ((x0:Int) + 1)),(5,.vec 10136)] [(10136,.vec 3 1 ((wfTo l f x0).length + 1) (catF (wfTo l f x0).length (fun (i:Nat)=>[iv ((wfTo l f x0).getD i 0)]) fun (j:Nat)=>List.getD [[iv ((l.getD x0 default).frm.getD f 0)]] j (TI.za ti3)))] 10168) (by kernel_rfl) ⟨(o8 hp x0 hx0 h1),tv,tv⟩ ?_
  exact loop_next (Hint.ann (h90 l f) [(1,iv (f:Int)),(8,aWays l),(9,iv (↑(l.length):Int))] [] 10040) x0 (ent_q hE [] [(5000,.same 10136)] [1,8,9] [] (((iv (f:Int)=iv (f:Int)/\true=true)/\(aWays l=aWays l/\true=true)/\(iv (↑(l.length):Int)=iv (↑(l.length):Int)/\true=true)/\(iv ((x0:Int) + 1)=iv (↑(x0 + 1):Int)/\nilN = [])/\some (Src.same 10136)=some (Src.same 10136)/\True)/\((3=3/\1=1/\(wfTo l f x0).length + 1=(wfTo l f (x0 + 1)).length /\ ∀ (i2:Nat),i2 < (wfTo l f x0).length + 1->catF (wfTo l f x0).length (fun (i:Nat)=>[iv ((wfTo l f x0).getD i 0)]) (fun (j:Nat)=>List.getD [[iv ((l.getD x0 default).frm.getD f 0)]] j (TI.za ti3)) i2 = [iv ((wfTo l f (x0 + 1)).getD i2 0)])/\True)/\T2) (by kernel_rfl) (by kernel_rfl) ⟨⟨⟨rfl,rfl⟩,⟨rfl,rfl⟩,⟨rfl,rfl⟩,⟨(congrArg iv (o9 hp x0 hx0 h1)),rfl⟩,rfl,tv⟩,⟨⟨rfl,rfl,(o10 hp x0 hx0 h1),(fun i2=>(fun h3=>(o11 hp x0 hx0 h1 i2 h3)))⟩,tv⟩,rfl,rfl⟩) (o12 hp x0 hx0 h1) (o13 hp x0 hx0 h1)
 ·refine swp_exit (swp_seq ?_)
  refine swp_ent (ent_q (st2:=ASt.mk [(1,iv (f:Int)),(8,aWays l),(9,iv (↑(l.length):Int)),(10,iv (x0:Int)),(5,AV.vec 5000),(11,bv (decide ((x0:Int) < (↑(l.length):Int))))] [(5000,OB.vec 3 1 (wf l f).length fun (i:Nat)=>[iv ((wf l f).getD i 0)])] 10048) hE [] [(5000,.same 5000)] [1,8,9,10,11] [] (((iv (f:Int)=iv (f:Int)/\true=true)/\(aWays l=aWays l/\true=true)/\(iv (↑(l.length):Int)=iv (↑(l.length):Int)/\true=true)/\(iv (x0:Int)=iv (x0:Int)/\true=true)/\some (Src.same 5000)=some (Src.same 5000)/\(bv (decide ((x0:Int) < (↑(l.length):Int)))=bv (decide ((x0:Int) < (↑(l.length):Int)))/\true=true)/\True)/\((3=3/\1=1/\(wfTo l f x0).length=(wf l f).length /\ ∀ (i4:Nat),i4 < (wfTo l f x0).length -> [iv ((wfTo l f x0).getD i4 0)] = [iv ((wf l f).getD i4 0)])/\True)/\T2) (by kernel_rfl) (by kernel_rfl) ⟨⟨⟨rfl,rfl⟩,⟨rfl,rfl⟩,⟨rfl,rfl⟩,⟨rfl,rfl⟩,rfl,⟨rfl,rfl⟩,tv⟩,⟨⟨rfl,rfl,(o14 hp x0 hx0 h1),(fun i4=>(fun h5=>(o15 hp x0 hx0 h1 i4 h5)))⟩,tv⟩,rfl,rfl⟩) ?_
  refine swp_region T0_ok mixed (cs:=[(1,CallSpec.eq (c90a l f) [true])]) (kt:=[5]) (kh:=[5000]) (q:=True/\((AV.vec 5000=AV.vec 5000/\True)/\Triple Try.prog 119 (c90a l f)/\(0 < (wf l f).length/\(wf l f).length<=65536)/\(some (OB.vec 3 1 (wf l f).length fun (i:Nat)=>[iv ((wf l f).getD i 0)])=some (OB.vec 3 1 (wf l f).length fun (i:Nat)=>[iv ((wf l f).getD i 0)])/\True) /\ ∀ (i6:Env),True)/\True) (st':=ASt.mk [(5,.vec 5000)] [(5000,.vec 3 1 (sortI (wf l f)).length fun (i:Nat)=>[iv ((sortI (wf l f)).getD i 0)])] 10064) (by kernel_rfl) ⟨tv,⟨⟨rfl,tv⟩,(t119 _ _),⟨(o16 hp x0 hx0 h1),(o17 hp x0 hx0 h1)⟩,⟨rfl,tv⟩,(fun i6=>tv)⟩,tv⟩ ?_
  refine swp_seq ?_
  refine swp_region T0_ok mixed (cs:=[(1,CallSpec.eq (c90b l f) [true])]) (kt:=[4]) (kh:=[]) (q:=True/\((AV.vec 5000=AV.vec 5000/\True)/\Triple Try.prog 120 (c90b l f)/\(0 < (sortI (wf l f)).length/\(sortI (wf l f)).length<=65536)/\(some (OB.vec 3 1 (sortI (wf l f)).length fun (i:Nat)=>[iv ((sortI (wf l f)).getD i 0)])=some (OB.vec 3 1 (sortI (wf l f)).length fun (i:Nat)=>[iv ((sortI (wf l f)).getD i 0)])/\True) /\ ∀ (i7:Env),True)/\True/\True) (st':=ASt.mk [(4,aInts (compactI (sortI (wf l f))))] [] 10088) (by kernel_rfl) ⟨tv,⟨⟨rfl,tv⟩,(t120 _ _),⟨(o18 hp x0 hx0 h1),(o19 hp x0 hx0 h1)⟩,⟨rfl,tv⟩,(fun i7=>tv)⟩,tv,tv⟩ ?_
  refine swp_ret ?_
  exact ret_q [] ((True/\True)/\(1=1/\(compactI (sortI (wf l f))).length=(whereP l f).length /\ ∀ (i8:Nat),i8 < (whereP l f).length -> [iv ((compactI (sortI (wf l f))).getD i8 0)] = [iv ((whereP l f).getD i8 0)])/\T3) (by kernel_rfl) ⟨⟨tv,tv⟩,⟨rfl,(o20 hp x0 hx0 h1),(fun i8=>(fun h9=>(o21 hp x0 hx0 h1 i8 h9)))⟩,rfl,rfl,rfl⟩
theorem t90 (l:List WayS) (f:Nat):Triple Try.prog 90 (s90 l f):=by
  have hs:(sortI (wf l f)).length=l.length:=by rw [sortI_len,wf_len]
  have hw:=wf_len l f
  apply w90
  all_goals (first
    | ((repeat intro _) <;> (try simp only [v0,v1,v2,v3,v4,v5,v6,v7,v8,v9,inI,fits,Go.Sh.small] at *) <;> first | (exact rfl) | omega | exact vz | (simp_all; done) | (simp_all; omega))
    | (intro hp x hx hl
       simp only [decide_eq_true_eq,decide_eq_false_iff_not] at hl
       have h1:=wfTo_len (l:=l) (f:=f) hx
       have h2:=hp.2.2 x
       first
       | omega
       | (rw [wfTo_succ (by omega),List.length_append]; rfl)
       | (intro i hi; rw [wfTo_succ (by omega)]; exact catF_one _ _ 0 (fun z=>[iv z]) rfl (fun _ _=>rfl) rfl hi)
       | (rw [wfTo_full (by omega)]; done)
       | (intro i hi; rw [wfTo_full (by omega)])))
abbrev q35_1 (r:Run) (f:Int) (C:Prop):Prop:=fits r->(!decide (openE r (isFound r f)=0))=false->C
theorem w35 (r:Run) (f:Int)
 (o0:fits r->(!decide (openE r (isFound r f)=0))->(whereS r f).length=0)
 (o1:q35_1 r f (f=(↑(f.toNat):Int)))
 (o2:q35_1 r f (0 < (openL r (isFound r f)).length))
 (o3:q35_1 r f ((openL r (isFound r f)).length<=729))
 (o4:q35_1 r f (∀ (i3:Nat),i3 < (openL r (isFound r f)).length->f.toNat < ((openL r (isFound r f)).getD i3 default).frm.length))
 (o5:q35_1 r f ((whereP (openL r (isFound r f)) f.toNat).length=(whereS r f).length))
 (o6:q35_1 r f (∀ (i6:Nat),i6 < (whereS r f).length -> [iv ((whereP (openL r (isFound r f)) f.toNat).getD i6 0)] = [iv ((whereS r f).getD i6 0)]))
 (o7:q35_1 r f (0=openE r (isFound r f))) :
  Triple Try.prog 35 (s35 r f):=by
 refine triple_of Try.func35 rfl Try.call35 T0_ok _ rfl rfl rfl rfl (Nat.le_of_ble_eq_true (by kernel_rfl)) (fun _ _ _ _ h=>h) ?_
 intro hp C hC _ hE
 obtain ⟨P,w0,E0,av,hA⟩:=C
 subst hC
 refine swp_seq ?_
 refine sR (kt:=[1,2]) (kh:=[0]) (q:=True/\True/\True/\True) (st':=ASt.mk [(1,iv f),(2,.ptr 0 [])] [(0,.cells 25 (cRun r))] 24) (by kernel_rfl) ⟨tv,tv,tv,tv⟩ ?_
 refine swp_seq ?_
 refine swp_region T0_ok mixed (cs:=[(3,CallSpec.eq (s85 r f) [true,true]),(4,CallSpec.eq (c35o r f) [true,true])]) (kt:=[1,6,7]) (kh:=[]) (q:=True/\True/\True/\((AV.agg (cRun r)=AV.agg (cRun r)/\iv f=iv f/\True)/\Triple Try.prog 85 (s85 r f)/\fits r/\True /\ ∀ (i0:Env),True)/\((AV.agg (cRun r)=AV.agg (cRun r)/\bv (isFound r f)=bv (isFound r f)/\True)/\Triple Try.prog 78 (c35o r f)/\fits r/\True /\ ∀ (i1:Env),True)/\True/\True/\True/\True/\True/\True) (st':=ASt.mk [(1,iv f),(6,aWays (openL r (isFound r f))),(7,iv (openE r (isFound r f)))] [] 104) (by kernel_rfl) ⟨tv,tv,tv,⟨⟨rfl,rfl,tv⟩,(t85 (r) (f)),hp,tv,(fun i0=>tv)⟩,⟨⟨rfl,rfl,tv⟩,(t78 _ _),hp,tv,(fun i1=>tv)⟩,tv,tv,tv,tv,tv,tv⟩ ?_
 refine swp_seq (swp_seq ?_)
 refine sR (kt:=[1,6,7,17]) (kh:=[]) (q:=True/\True/\True) (st':=ASt.mk [(1,iv f),(6,aWays (openL r (isFound r f))),(7,iv (openE r (isFound r f))),(17,bv !decide (openE r (isFound r f)=0))] [] 120) (by kernel_rfl) ⟨tv,tv,tv⟩ ?_
 refine swp_cond (!decide (openE r (isFound r f)=0)) (by kernel_rfl) (fun h2 => ?_) (fun h2 => ?_)
 ·refine swp_seq ?_
  refine sR (kt:=[4,5]) (kh:=[]) (q:=True/\True/\True/\True) (st':=ASt.mk [(4,nilv),(5,iv (openE r (isFound r f)))] [] 144) (by kernel_rfl) ⟨tv,tv,tv,tv⟩ ?_
  refine swp_ret ?_
  exact ret_q [] ((True/\True/\True)/\((whereS r f).length=0/\(iv (openE r (isFound r f))=iv (openE r (isFound r f))/\nilN = [])/\True)/\T3) (by kernel_rfl) ⟨⟨tv,tv,tv⟩,⟨(o0 hp h2),⟨rfl,rfl⟩,tv⟩,rfl,rfl,rfl⟩
 ·refine swp_skip (swp_seq ?_)
  refine swp_region T0_ok mixed (cs:=[(2,CallSpec.eq (c35 r f) [true,false])]) (kt:=[4,5]) (kh:=[]) (q:=True/\True/\((aWays (openL r (isFound r f))=aWays (openL r (isFound r f))/\iv f=iv (↑(f.toNat):Int)/\True)/\Triple Try.prog 90 (c35 r f)/\(0 < (openL r (isFound r f)).length/\(openL r (isFound r f)).length<=729 /\ ∀ (i3:Nat),i3 < (openL r (isFound r f)).length->f.toNat < ((openL r (isFound r f)).getD i3 default).frm.length)/\True /\ ∀ (i5:Env),True)/\True/\True/\True) (st':=ASt.mk [(4,aInts (whereP (openL r (isFound r f)) f.toNat)),(5,iv 0)] [] 160) (by kernel_rfl) ⟨tv,tv,⟨⟨rfl,(congrArg iv (o1 hp h2)),tv⟩,(t90 _ _),⟨(o2 hp h2),(o3 hp h2),(fun i3=>(fun h4=>(o4 hp h2 i3 h4)))⟩,tv,(fun i5=>tv)⟩,tv,tv,tv⟩ ?_
  refine swp_ret ?_
  exact ret_q [] ((True/\True/\True)/\((1=1/\(whereP (openL r (isFound r f)) f.toNat).length=(whereS r f).length /\ ∀ (i6:Nat),i6 < (whereS r f).length -> [iv ((whereP (openL r (isFound r f)) f.toNat).getD i6 0)] = [iv ((whereS r f).getD i6 0)])/\(iv 0=iv (openE r (isFound r f))/\nilN = [])/\True)/\T3) (by kernel_rfl) ⟨⟨tv,tv,tv⟩,⟨⟨rfl,(o5 hp h2),(fun i6=>(fun h7=>(o6 hp h2 i6 h7)))⟩,⟨(congrArg iv (o7 hp h2)),rfl⟩,tv⟩,rfl,rfl,rfl⟩
theorem t35 (r:Run) (f:Int):Triple Try.prog 35 (s35 r f):=by
  apply w35
  all_goals (first
    | ((repeat intro _) <;> (try simp only [v0,v1,v2,v3,v4,v5,v6,v7,v8,v9,inI,fits,Go.Sh.small] at *) <;> first | (exact rfl) | omega | exact vz | (simp_all; done) | (simp_all; omega))
    | (intro _ h; rw [whereS,if_neg (openBad h)] <;> rfl)
    | (intro _ h
       have F:=openF h
       have h1:0<=f/\f < r.found.length:=by have:=F.isT; simp only [isFound,Go.Sh.within_iff] at this; omega
       have h2:=F.len
       have h3:=F.pos
       first
       | exact F.zero.symm
       | omega
       | (intro x hx; rw [F.frm x hx]; omega)
       | (rw [whereS,if_pos F.zero,F.eq]; done)
       | (intro x hx; rw [whereS,if_pos F.zero,F.eq])))
end Go.Ab
namespace Go.Ab
open Go Go.RowKit
theorem swp_cases {C:Ctx} {nt:Nat} {K:AX->ASt->Prop} {st:ASt} {c:Code} (b:Bool) (h1:b=true->SWP C nt c K st) (h2:b=false->SWP C nt c K st):SWP C nt c K st:=by
 cases b with
 | true=>exact h1 rfl
 | false=>exact h2 rfl
def hoIn (L:List (Nat × OB)):List (Nat × OB)->Prop
 | []=>True
 | p :: r=>Heap.of L p.1=some p.2/\hoIn L r
theorem hoIn_mem {L:List (Nat × OB)}:∀ {l:List (Nat × OB)},hoIn L l -> ∀ p ∈ l,Heap.of L p.1=some p.2:=by
 intro l
 induction l with
 | nil=>intro _ p hp; cases hp
 | cons q r ih =>
  intro h p hp
  cases hp with
  | head=>exact h.1
  | tail _ hp=>exact ih h.2 p hp
def retO (T:Tab) (rs:List ResultVar) (st:ASt) (res:AV) (hout:List (Nat × OB)):Prop :=
 match resVals T st rs with
 | some (q,rvs)=>q/\retAV rvs=res/\hoIn st.hp hout
 | none=>False
def RetO (C:Ctx) (nt:Nat) (T:Tab) (rs:List ResultVar) (res:AV) (hout:List (Nat × OB)):AX->ASt->Prop
 | .exit _,_=>False
 | _,st => ∃ st2,Ent C nt st st2/\retO T rs st2 res hout
def renI:List (Nat × Nat)->Nat->Nat
 | [],j=>j
 | p :: r,j=>if p.1=j then p.2 else renI r j
def renC (l:List (Nat × Nat)):AV->AV
 | .vec b => .vec (renI l b)
 | v=>v
def renV1 (l:List (Nat × Nat)):AV->AV
 | .agg cs => .agg (cs.map (renC l))
 | v=>renC l v
def renV (l:List (Nat × Nat)):AV->AV
 | .tup vs => .tup (vs.map (renV1 l))
 | v=>renV1 l v
def renB (l:List (Nat × Nat)):OB->OB
 | .vecx t sz n f j fj => .vecx t sz n f j (fj.map (renC l))
 | ob=>ob
def okC (ks:List Nat):AV->Bool
 | .vec b=>ks.contains b
 | v=>(ids v).isEmpty
def okV1 (ks:List Nat):AV->Bool
 | .agg cs=>cs.all (okC ks)
 | v=>okC ks v
def okV (ks:List Nat):AV->Bool
 | .tup vs=>vs.all (okV1 ks)
 | v=>okV1 ks v
def okB (ks:List Nat):OB->Bool
 | .vec _ _ _ _=>true
 | .vecx _ _ _ _ _ fj=>fj.all (okC ks) && noFnL fj
 | _=>false
structure OutSpec where
 args:List AV
 pre:Prop:=True
 res:AV
 hout:List (Nat × OB)
def OutSpec.at (s:OutSpec) (l:List (Nat × Nat)):CallSpec:={ args:=s.args,pre:=s.pre,res:=renV l s.res,hout:=s.hout.map (fun p=>(renI l p.1,renB l p.2)) }
theorem noDup_nodup:∀ {l:List Nat},noDup l=true->l.Nodup:=by
 intro l
 induction l with
 | nil=>intro _; exact List.nodup_nil
 | cons c l ih =>
  intro h
  obtain ⟨h1,h2⟩:=noDup_cons h
  exact List.nodup_cons.2 ⟨h1,ih h2⟩
structure Ren (l:List (Nat × Nat)) (E F:Env):Prop where
 M:∀ b o,E.M b=some o->F.M b=some o
 fns:F.fns=E.fns
 same:∀ c,c ∈ l.map (·.1)->F.blk (renI l c)=E.blk c/\F.hdr (renI l c)=E.hdr c
theorem renC_rel {l:List (Nat × Nat)} {E F:Env} (hr:Ren l E F) {v:AV} {u:Value} (ho:okC (l.map (·.1)) v=true) (h:Rel E true v u):Rel F true (renC l v) u:=by
 cases v with
 | vec b =>
  have hm:b ∈ l.map (·.1):=by simpa [okC] using ho
  cases h with
  | vec _ hh h1=>exact .vec _ (by rw [(hr.same b hm).2]; exact hh) h1
 | _ =>
  simp only [renC]
  simp only [okC,List.isEmpty_iff] at ho
  exact Rel.trim hr.M hr.fns h (fun _=>ho)
theorem renL_rel {l:List (Nat × Nat)} {E F:Env} (hr:Ren l E F):∀ {cs:List AV} {us:List Value},cs.all (okC (l.map (·.1)))=true->RelL E true cs us->RelL F true (cs.map (renC l)) us:=by
 intro cs
 induction cs with
 | nil=>intro us _ h; cases h; exact .nil
 | cons c cs ih =>
  intro us ho h
  simp only [List.all_cons,Bool.and_eq_true] at ho
  cases h with
  | cons h h1 hs=>exact .cons (renC_rel hr ho.1 h) h1 (ih ho.2 hs)
  | arr g hg h hs=>exact .arr g hg (fun i hi=>(h i hi).trim hr.M hr.fns) (ih ho.2 hs)
theorem renV1_rel {l:List (Nat × Nat)} {E F:Env} (hr:Ren l E F) {v:AV} {u:Value} (ho:okV1 (l.map (·.1)) v=true) (h:Rel E true v u):Rel F true (renV1 l v) u:=by
 cases v with
 | agg cs =>
  cases h with
  | agg hl=>exact .agg (renL_rel hr ho hl)
 | _ =>
  simp only [renV1]
  simp only [okV1] at ho
  exact renC_rel hr ho h
theorem renV_rel {l:List (Nat × Nat)} {E F:Env} (hr:Ren l E F) {v:AV} {u:Value} (ho:okV (l.map (·.1)) v=true) (h:Rel E true v u):Rel F true (renV l v) u:=by
 cases v with
 | tup vs =>
  cases h with
  | tup hl hk =>
   rename_i us
   refine .tup (by rw [List.length_map]; exact hl) fun k => ?_
   have h0:=hk k
   simp only [okV,List.all_eq_true] at ho
   by_cases hlt:k < vs.length
   ·have e1:(vs.map (renV1 l)).getD k .any=renV1 l (vs.getD k .any):=by
     simp [List.getD,List.getElem?_eq_getElem hlt]
    rw [e1]
    refine renV1_rel hr (ho _ ?_) h0
    simp [List.getD,List.getElem?_eq_getElem hlt]
   ·rw [List.getD_eq_getElem?_getD,List.getElem?_eq_none (by simpa using hlt)]
    exact .any _
 | _ =>
  simp only [renV]
  simp only [okV] at ho
  exact renV1_rel hr ho h
theorem renI_mem:∀ {l:List (Nat × Nat)} {c:Nat},c ∈ l.map (·.1)->(c,renI l c) ∈ l:=by
 intro l
 induction l with
 | nil=>intro c h; cases h
 | cons p r ih =>
  intro c h
  unfold renI
  split
  ·rename_i e; rw [← e]; exact List.mem_cons_self
  ·rename_i e
   refine List.mem_cons_of_mem _ (ih ?_)
   simp only [List.map_cons,List.mem_cons] at h
   rcases h with h | h
   ·exact absurd h.symm e
   ·exact h
def unI:List (Nat × Nat)->Nat->Option Nat
 | [],_=>none
 | p :: r,j=>if p.2=j then some p.1 else unI r j
theorem unI_of:∀ {l:List (Nat × Nat)},(l.map (·.2)).Nodup -> ∀ {c b:Nat},(c,b) ∈ l->unI l b=some c:=by
 intro l
 induction l with
 | nil=>intro _ c b h; cases h
 | cons p r ih =>
  intro hn c b h
  rw [List.map_cons,List.nodup_cons] at hn
  unfold unI
  cases h with
  | head=>rw [if_pos rfl]
  | tail _ h =>
   have:¬ p.2=b:=fun e=>hn.1 (by rw [e]; exact List.mem_map_of_mem (f:=fun x:Nat × Nat=>x.2) h)
   rw [if_neg this]
   exact ih hn.2 h
theorem unI_mem:∀ {l:List (Nat × Nat)} {c b:Nat},unI l b=some c->(c,b) ∈ l:=by
 intro l
 induction l with
 | nil=>intro c b h; cases h
 | cons p r ih =>
  intro c b h
  unfold unI at h
  split at h
  ·rename_i e; cases h; rw [← e]; exact List.mem_cons_self
  ·exact List.mem_cons_of_mem _ (ih h)
theorem triple_out {P:Program} {f:FuncId} {fn:Func} {c:Code} {T:Tab} (hf:P.funcs[f]? = some fn) (hb:fn.body=some c) (hcall:Callable P f) (hT:Tab.ok P T) (args:List AV) (pre:Prop) (res:AV) (hout:List (Nat × OB)) (l:List (Nat × Nat))
  (hargs:idsL args = []) (hn:args.length<=fn.ntmps) (hl1:l.map (·.1)=hout.map (·.1)) (hnd:(l.map (·.2)).Nodup) (hres:okV (hout.map (·.1)) res=true) (hob:hout.all (fun p=>okB (hout.map (·.1)) p.2)=true) (hnd1:noDup (hout.map (·.1))=true)
  (body:pre -> ∀ C:Ctx,C.P=P->(∀ j,C.E0.blk j=none/\C.E0.hdr j=none)->SWP C fn.ntmps c (RetO C fn.ntmps T fn.results.toList res hout) ⟨argsTm args 0,[],0⟩) :
  Triple P f ((⟨args,pre,res,hout⟩:OutSpec).at l):=by
 have hk:∀ p ∈ l,∃ ob,(p.1,ob) ∈ hout:=by
  intro p hp
  have:p.1 ∈ hout.map (·.1):=by rw [← hl1]; exact List.mem_map_of_mem (f:=fun x:Nat × Nat=>x.1) hp
  obtain ⟨q,hq,he⟩:=List.mem_map.1 this
  exact ⟨q.2,by rw [← he]; exact hq⟩
 replace hnd1:(l.map (·.1)).Nodup:=by rw [hl1]; exact noDup_nodup hnd1
 rw [← hl1] at hres
 replace hob:hout.all (fun p=>okB (l.map (·.1)) p.2 && (l.map (·.1)).contains p.1)=true:=by
  rw [List.all_eq_true] at hob ⊢
  intro p hp
  rw [hl1,hob p hp,Bool.true_and,List.contains_eq_mem]
  exact decide_eq_true (List.mem_map_of_mem (f:=fun x:Nat × OB=>x.1) hp)
 show Triple P f { args:=args,pre:=pre,res:=renV l res,hout:=hout.map (fun p=>(renI l p.1,renB l p.2)) }
 refine ⟨hcall,fun hpre E w vs _ hok hlen hrel hfresh => ?_⟩
 let E0:Env:={ E with blk:=fun _=>none,hdr:=fun _=>none }
 let C:Ctx:=calleeCtx P E0 w []
 have hok0:HeapOK C E0 (Heap.of []) w:=⟨rfl,rfl,rfl,Nat.le_refl _,fun _ _=>rfl,fun b o h=>hok.mem b o h,Env.le.refl _,fun b o h => .inl h,(fun i ob h=>by cases h),(fun i j k _ h=>absurd rfl h)⟩
 have htm:∀ t,Rel E0 true (look (argsTm args 0) t) ((vs.toArray ++ Array.replicate (fn.ntmps - vs.toArray.size) undef).getD t undef):=by
  intro t
  rw [look_args,if_pos (Nat.zero_le _),Nat.sub_zero]
  rcases Nat.lt_or_ge t vs.length with ht | ht
  ·have h1:(vs.toArray ++ Array.replicate (fn.ntmps - vs.toArray.size) undef).getD t undef=vs.getD t undef:=by
    simp only [Array.getD_eq_getD_getElem?,List.getD_eq_getElem?_getD]
    rw [Array.getElem?_append_left (by simpa using ht)]
    simp
   rw [h1]
   exact Rel.trim (E:=E) (F:=E0) (fun _ _ h=>h) rfl (hrel t) (fun _=>idsL_get hargs t)
  ·have hl':vs.length=args.length:=hlen
   rw [List.getD_eq_getElem?_getD,List.getElem?_eq_none (by omega)]
   exact .any _
 have hl':vs.length=args.length:=hlen
 have hsat:Sat C E0 fn.ntmps ⟨argsTm args 0,[],0⟩ w { tmps:=vs.toArray ++ Array.replicate (fn.ntmps - vs.toArray.size) undef,defers:=[] } :=
  ⟨⟨hok0,htm,rfl,by simp; omega⟩,fun j _=>⟨rfl,rfl⟩⟩
 have hsw:=body hpre C rfl (fun j=>⟨rfl,rfl⟩) E0 w _ hsat
 refine calls_of_wp hf hb (wp_mono hsw ?_)
 rintro e a' w' ⟨x,E1,st1,rfl,hs1,hk1⟩
 have fin:(∃ st2,Ent C fn.ntmps st1 st2/\retO T fn.results.toList st2 res hout)->a'.defers = [] /\ ∃ v,(results fn a'.tmps).run P w' = .ok v w'/\CallPost P { args:=args,pre:=pre,res:=renV l res,hout:=hout.map (fun p=>(renI l p.1,renB l p.2)) } E w (.returned v) w':=by
  rintro ⟨st2,hent,hq⟩
  obtain ⟨E',hs'⟩:=hent E1 w' a' hs1
  refine ⟨hs'.ok.defers,?_⟩
  unfold retO at hq
  split at hq
  ·rename_i q rvs hrv
   obtain ⟨hq0,hres0,hho⟩:=hq
   obtain ⟨us,hus,hul,hur⟩:=resVals_run (C:=C) hT hs' _ q rvs hrv hq0
   have hrun:=results_run (P:=P) hus
   refine ⟨_,hrun,?_⟩
   have hrv':Rel E' true (retAV rvs) (if h:us.length=1 then us[0] else .tuple us.toArray):=by
    cases rvs with
    | nil =>
     have:us = []:=List.eq_nil_of_length_eq_zero hul
     subst this
     exact .tup rfl (fun k=>hur k)
    | cons v r =>
     cases r with
     | nil =>
      have hul1:us.length=1:=hul
      rw [dif_pos hul1]
      have:=hur 0
      simp only [List.getD_cons_zero] at this
      rw [List.getD_eq_getElem?_getD,List.getElem?_eq_getElem (by omega)] at this
      exact this
     | cons v2 r =>
      have hne:¬ us.length=1:=by rw [hul]; simp
      rw [dif_neg hne]
      exact .tup (cs:=v :: v2 :: r) hul hur
   rw [hres0] at hrv'
   have hle:=hs'.ok.heap.le
   let F:Env:={ E with M:=E'.M,blk:=fun j=>match unI l j with | some c=>E'.blk c | none=>E.blk j,hdr:=fun j=>match unI l j with | some c=>E'.hdr c | none=>E.hdr j }
   have hfns:F.fns=E'.fns:=by
    show E.fns=E'.fns
    exact (hle.fns.symm:E0.fns=E'.fns)
   have hren:Ren l E' F:=by
    refine ⟨fun b o h=>h,hfns,fun c hc => ?_⟩
    have:=unI_of hnd (renI_mem hc)
    constructor
    ·show (match unI l (renI l c) with | some c=>E'.blk c | none=>E.blk (renI l c))=_
     rw [this]
    ·show (match unI l (renI l c) with | some c=>E'.hdr c | none=>E.hdr (renI l c))=_
     rw [this]
   have hinfo:∀ p ∈ hout,okB (l.map (·.1)) p.2=true/\p.1 ∈ l.map (·.1):=by
    intro p hp
    rw [List.all_eq_true] at hob
    have:=hob p hp
    simp only [Bool.and_eq_true,List.contains_eq_mem,decide_eq_true_eq] at this
    exact this
   have hfr:∀ j c,unI l j=some c->E.blk j=none/\E.hdr j=none:=by
    intro j c hj
    obtain ⟨ob,hob'⟩:=hk _ (unI_mem hj)
    have hm:c ∈ l.map (·.1):=(hinfo _ hob').2
    have h1:=unI_of hnd (renI_mem hm)
    have h2:=renI_mem hm
    have hjr:renI l c=j:=by
     have h3:=unI_mem hj
     -- both pairs have the same first part
     have key:∀ {l:List (Nat × Nat)},(l.map (·.1)).Nodup -> ∀ {c a b:Nat},(c,a) ∈ l->(c,b) ∈ l->a=b:=by
      intro l
      induction l with
      | nil=>intro _ c a b h; cases h
      | cons p r ih =>
       intro hn c a b ha hb
       rw [List.map_cons,List.nodup_cons] at hn
       cases ha with
       | head =>
        cases hb with
        | head=>rfl
        | tail _ hb=>exact absurd (List.mem_map_of_mem (f:=fun x:Nat × Nat=>x.1) hb) hn.1
       | tail _ ha =>
        cases hb with
        | head=>exact absurd (List.mem_map_of_mem (f:=fun x:Nat × Nat=>x.1) ha) hn.1
        | tail _ hb=>exact ih hn.2 ha hb
     exact key hnd1 h2 h3
    have hmem:(renI l c,renB l ob) ∈ hout.map (fun p=>(renI l p.1,renB l p.2)):=List.mem_map_of_mem (f:=fun p:Nat × OB=>(renI l p.1,renB l p.2)) hob'
    have:=hfresh _ hmem (fun q hq=>by cases hq)
    rw [hjr] at this
    exact this
   have lF:E.le F:=by
    refine ⟨fun b o h=>hle.M b o h,fun b k h => ?_,fun b u h => ?_,rfl⟩
    ·show (match unI l b with | some c=>E'.blk c | none=>E.blk b)=some k
     cases e:unI l b with
     | none=>exact h
     | some c=>rw [(hfr b c e).1] at h; cases h
    ·show (match unI l b with | some c=>E'.hdr c | none=>E.hdr b)=some u
     cases e:unI l b with
     | none=>exact h
     | some c=>rw [(hfr b c e).2] at h; cases h
   have hget:∀ i ob,Heap.of (hout.map (fun p=>(renI l p.1,renB l p.2))) i=some ob -> ∃ c ob0,unI l i=some c/\ob=renB l ob0/\Heap.of st2.hp c=some ob0/\okB (l.map (·.1)) ob0=true/\renI l c=i:=by
    intro i ob hi
    have hm:=Heap.of_mem hi
    obtain ⟨p,hp,he⟩:=List.mem_map.1 hm
    cases he
    exact ⟨p.1,p.2,unI_of hnd (renI_mem (hinfo p hp).2),rfl,hoIn_mem hho p hp,(hinfo p hp).1,rfl⟩
   have h':=hs'.ok.heap
   have av1:∀ x,C.avail x->(calleeCtx P E w []).avail x:=by
    rintro x (h | ⟨q,hq,_⟩)
    ·exact .inl h
    ·cases hq
   refine ⟨_,F,rfl,?_,renV_rel hren hres hrv',fun j hj => ?_⟩
   ·refine ⟨h'.os,h'.tape,h'.output,h'.size,fun x hx=>h'.pres x (fun h=>hx (av1 x h)),fun x o h=>h'.mem x o h,lF,fun x o h => ?_,fun i ob hi => ?_,fun i j y hij hi hj hiy hjy => ?_⟩
    ·rcases h'.ext x o h with h | h
     ·exact .inl h
     ·exact .inr (av1 x h)
    ·obtain ⟨c,ob0,hc,rfl,hst,hok',hri⟩:=hget i ob hi
     have hown:=h'.own c ob0 hst
     have hcb:F.blk i=E'.blk c:=by
      show (match unI l i with | some c=>E'.blk c | none=>E.blk i)=_
      rw [hc]
     have hch:F.hdr i=E'.hdr c:=by
      show (match unI l i with | some c=>E'.hdr c | none=>E.hdr i)=_
      rw [hc]
     cases ob0 with
     | vec t sz n f =>
      obtain ⟨hd,g,hh,ho,hgl,hgr,hbk,hav⟩:=hown
      exact ⟨hd,g,by rw [hch]; exact hh,ho,hgl,fun i hi=>RelL.trim (E:=E') (F:=F) (fun _ _ h=>h) hfns (hgr i hi),by rw [hcb]; exact hbk,fun k hk=>⟨av1 k (hav k hk).1,(hav k hk).2⟩⟩
     | vecx t sz n f j fj =>
      obtain ⟨hd,g,hh,ho,hgl,hgr,hgj,hbk,hav⟩:=hown
      simp only [okB,Bool.and_eq_true] at hok'
      exact ⟨hd,g,by rw [hch]; exact hh,ho,hgl,fun i hi hij=>RelL.trim (E:=E') (F:=F) (fun _ _ h=>h) hfns (hgr i hi hij),fun h=>renL_rel hren hok'.1 (hgj h),by rw [hcb]; exact hbk,fun k hk=>⟨av1 k (hav k hk).1,(hav k hk).2⟩⟩
     | _=>cases hok'
    ·have get:∀ i,Heap.of (hout.map (fun p=>(renI l p.1,renB l p.2))) i ≠ none->F.blk i=some y -> ∃ c,unI l i=some c/\Heap.of st2.hp c ≠ none/\E'.blk c=some y/\renI l c=i:=by
      intro i hi hiy
      cases e:Heap.of (hout.map (fun p=>(renI l p.1,renB l p.2))) i with
      | none=>exact absurd e hi
      | some ob =>
       obtain ⟨c,ob0,hc,rfl,hst,hok',hri⟩:=hget i ob e
       refine ⟨c,hc,by rw [hst]; simp,?_,hri⟩
       have:F.blk i=E'.blk c:=by
        show (match unI l i with | some c=>E'.blk c | none=>E.blk i)=_
        rw [hc]
       rw [← this]; exact hiy
     obtain ⟨c1,_,n1,k1,r1⟩:=get i hi hiy
     obtain ⟨c2,_,n2,k2,r2⟩:=get j hj hjy
     exact h'.sep c1 c2 y (fun e=>hij (by rw [← r1,← r2,e])) n1 n2 k1 k2
   ·have:unI l j=none:=by
     cases e:unI l j with
     | none=>rfl
     | some c =>
      obtain ⟨ob,hob'⟩:=hk _ (unI_mem e)
      have hm:c ∈ l.map (·.1):=(hinfo _ hob').2
      exfalso
      have hmem:(renI l c,renB l ob) ∈ hout.map (fun p=>(renI l p.1,renB l p.2)):=List.mem_map_of_mem (f:=fun p:Nat × OB=>(renI l p.1,renB l p.2)) hob'
      refine hj _ hmem ?_
      show renI l c=j
      have h2:=renI_mem hm
      have h3:=unI_mem e
      have key:∀ {l:List (Nat × Nat)},(l.map (·.1)).Nodup -> ∀ {c a b:Nat},(c,a) ∈ l->(c,b) ∈ l->a=b:=by
       intro l
       induction l with
       | nil=>intro _ c a b h; cases h
       | cons p r ih =>
        intro hn c a b ha hb
        rw [List.map_cons,List.nodup_cons] at hn
        cases ha with
        | head =>
         cases hb with
         | head=>rfl
         | tail _ hb=>exact absurd (List.mem_map_of_mem (f:=fun x:Nat × Nat=>x.1) hb) hn.1
        | tail _ ha =>
         cases hb with
         | head=>exact absurd (List.mem_map_of_mem (f:=fun x:Nat × Nat=>x.1) ha) hn.1
         | tail _ hb=>exact ih hn.2 ha hb
      exact key hnd1 h2 h3
    constructor
    ·show (match unI l j with | some c=>E'.blk c | none=>E.blk j)=_
     rw [this]
    ·show (match unI l j with | some c=>E'.hdr c | none=>E.hdr j)=_
     rw [this]
  ·exact hq.elim
 cases x with
 | normal=>exact fin hk1
 | ret=>exact fin hk1
 | exit id=>exact hk1.elim
section
variable {C:Ctx} {nt:Nat} {K:AX->ASt->Prop} {st:ASt}
theorem ret_o {T:Tab} {rs:List ResultVar} {res:AV} {hout:List (Nat × OB)} (st2:ASt) (he:Ent C nt st st2) (q:Prop) (hq:retO T rs st2 res hout=q) (h:q):RetO C nt T rs res hout .ret st:=⟨st2,he,by rw [hq]; exact h⟩
end
end Go.Ab
namespace Go.Sh
def eqN (i j:Nat):Bool:=decide (i=j)
theorem eqN_t {i j:Nat} (h:eqN i j=true):i=j:=of_decide_eq_true h
theorem eqN_f {i j:Nat} (h:eqN i j=false):i ≠ j:=of_decide_eq_false h
def chLen (r:Run) (j i:Nat):Nat:=if j < i then (mach r j).changes.length else 0
def nwLen (r:Run) (j i:Nat):Nat:=if j < i then (fnd r j).new.length else 0
theorem chLen_self (r:Run) (j:Nat):chLen r j (j + 1)=(mach r j).changes.length:=if_pos (Nat.lt_succ_self j)
theorem chLen_other {r:Run} {j i:Nat} (h:i ≠ j):chLen r j (i + 1)=chLen r j i:=by
 unfold chLen
 by_cases h1:j < i
 ·rw [if_pos h1,if_pos (by omega)]
 ·rw [if_neg h1,if_neg (by omega)]
theorem nwLen_self (r:Run) (j:Nat):nwLen r j (j + 1)=(fnd r j).new.length:=if_pos (Nat.lt_succ_self j)
theorem nwLen_other {r:Run} {j i:Nat} (h:i ≠ j):nwLen r j (i + 1)=nwLen r j i:=by
 unfold nwLen
 by_cases h1:j < i
 ·rw [if_pos h1,if_pos (by omega)]
 ·rw [if_neg h1,if_neg (by omega)]
end Go.Sh
namespace Go.Ab
open Go Go.RowKit Go.Proofs Go.Sh Go.En
def focS:CallSpec:={ args:=[],res := .any }
def ou20 (r:Run) (jm jf:Nat):OutSpec:={ args:=[vRun r],pre:=small r,res := .agg [iv r.plates,iv r.last,.vec 0,.vec 1],hout:=[(0,.vecx 42 2 r.machines.length (fun k=>cMach (mach r k)) jm [.vec 2,iv (mach r jm).rate]),(1,.vecx 32 3 r.found.length (fun k=>cFnd (fnd r k)) jf [iv (fnd r jf).minute,.vec 3,aInts (fnd r jf).frm]),(2,.vec 37 2 (chLen r jm r.machines.length) (fun p=>cSpan (chg (mach r jm) p))),(3,.vec 3 1 (nwLen r jf r.found.length) (fun p=>[iv ((fnd r jf).new.getD p 0)]))] }
def h20xa (r:Run) (jm jf:Nat):Hint:={ X:=Nat,M:=fun i=>[(4,iv i)],H:=fun i=>[(56,.cells 25 [iv r.plates,iv r.last,.vec 5000,nilv]),(5000,.vecx 42 2 i (fun k=>cMach (mach r k)) jm [.vec 5002,iv (mach r jm).rate]),(5002,.vec 37 2 (chLen r jm i) (fun p=>cSpan (chg (mach r jm) p)))],I:=fun i=>i<=r.machines.length,mu:=fun i=>r.machines.length - i,x0:=(0:Nat),nx:=fun i=>i + 1 }
def h20xb (r:Run) (jm jf:Nat):Hint:={ X:=Nat,M:=fun i=>[(5,iv i)],H:=fun i=>[(56,.cells 25 [iv r.plates,iv r.last,.vec 5000,.vec 5001]),(5000,.vecx 42 2 r.machines.length (fun k=>cMach (mach r k)) jm [.vec 5002,iv (mach r jm).rate]),(5002,.vec 37 2 (chLen r jm r.machines.length) (fun p=>cSpan (chg (mach r jm) p))),(5001,.vecx 32 3 i (fun k=>cFnd (fnd r k)) jf [iv (fnd r jf).minute,.vec 5003,aInts (fnd r jf).frm]),(5003,.vec 3 1 (nwLen r jf i) (fun p=>[iv ((fnd r jf).new.getD p 0)]))],I:=fun i=>i<=r.found.length,mu:=fun i=>r.found.length - i,x0:=(0:Nat),nx:=fun i=>i + 1 }
def f20 (r:Run) (jm jf:Nat) (i:Nat):CallSpec:=focS
end Go.Ab
namespace Go.Ab
open Go Go.RowKit Go.Proofs Go.Sh Go.En
abbrev qo20_1 (r:Run) (jm:Nat) (jf:Nat) (C:Nat->Prop):Prop:=small r -> ∀ (x0:Nat),x0<=r.machines.length->decide ((x0:Int) < (↑(r.machines.length):Int))=true->C x0
abbrev qo20_2 (r:Run) (jm:Nat) (jf:Nat) (C:Nat->Prop):Prop:=qo20_1 r jm jf fun x0=>eqN x0 jm=true->C x0
abbrev qo20_3 (r:Run) (jm:Nat) (jf:Nat) (C:Nat->Prop):Prop:=qo20_1 r jm jf fun x0=>eqN x0 jm=false->C x0
abbrev qo20_4 (r:Run) (jm:Nat) (jf:Nat) (C:Nat->Prop):Prop:=small r -> ∀ (x0:Nat),x0<=r.machines.length->decide ((x0:Int) < (↑(r.machines.length):Int))=false->C x0
abbrev qo20_5 (r:Run) (jm:Nat) (jf:Nat) (C:Nat->Nat->Prop):Prop:=qo20_4 r jm jf fun x0 => ∀ (x13:Nat),x13<=r.found.length->decide ((x13:Int) < (↑(r.found.length):Int))=true->C x0 x13
abbrev qo20_6 (r:Run) (jm:Nat) (jf:Nat) (C:Nat->Nat->Prop):Prop:=qo20_5 r jm jf fun x0 x13=>eqN x13 jf=true->C x0 x13
abbrev qo20_7 (r:Run) (jm:Nat) (jf:Nat) (C:Nat->Nat->Prop):Prop:=qo20_5 r jm jf fun x0 x13=>eqN x13 jf=false->C x0 x13
theorem wo20 (r:Run) (jm:Nat) (jf:Nat)
 (o0:small r->0=(↑0:Int))
 (o1:small r->chLen r jm 0=0)
 (o2:small r->0<=List.length (Run.machines r))
 (o3:qo20_2 r jm jf fun x0=>0<=(x0:Int))
 (o4:qo20_2 r jm jf fun x0=>(x0:Int) < (↑(r.machines.length):Int))
 (o5:qo20_2 r jm jf fun x0=>0 + (mach r x0).changes.length<=65536)
 (o6:qo20_2 r jm jf fun x0=>0<=(x0:Int))
 (o7:qo20_2 r jm jf fun x0=>(x0:Int) < (↑(r.machines.length):Int))
 (o8:qo20_2 r jm jf fun x0=>x0 + 1<=65536)
 (o9:qo20_2 r jm jf fun x0=>jm=x0)
 (o10:qo20_2 r jm jf fun x0=>inI ((x0:Int) + 1))
 (o11:qo20_2 r jm jf fun x0=>(x0:Int) + 1=(↑(x0 + 1):Int))
 (o12:qo20_2 r jm jf fun x0=>(mach r x0).rate=(mach r jm).rate)
 (o13:qo20_2 r jm jf fun x0=>0 + (mach r x0).changes.length=chLen r jm (x0 + 1))
 (o14:qo20_2 r jm jf fun x0 => ∀ (i6:Nat),i6 < 0 + (mach r x0).changes.length->cSpan ((mach r x0).changes.getD i6 default)=cSpan (chg (mach r jm) i6))
 (o15:qo20_2 r jm jf fun x0=>x0 + 1<=r.machines.length)
 (o16:qo20_2 r jm jf fun x0=>r.machines.length - (x0 + 1) < r.machines.length - x0)
 (o17:qo20_3 r jm jf fun x0=>0<=(x0:Int))
 (o18:qo20_3 r jm jf fun x0=>(x0:Int) < (↑(r.machines.length):Int))
 (o19:qo20_3 r jm jf fun x0=>0 + (mach r x0).changes.length<=65536)
 (o20:qo20_3 r jm jf fun x0=>0<=(x0:Int))
 (o21:qo20_3 r jm jf fun x0=>(x0:Int) < (↑(r.machines.length):Int))
 (o22:qo20_3 r jm jf fun x0=>x0 + 1<=65536)
 (o23:qo20_3 r jm jf fun x0=>jm < x0 ∨ x0 + 1<=jm)
 (o24:qo20_3 r jm jf fun x0=>inI ((x0:Int) + 1))
 (o25:qo20_3 r jm jf fun x0=>(x0:Int) + 1=(↑(x0 + 1):Int))
 (o26:qo20_3 r jm jf fun x0 => ∀ (i8:Nat),i8 < x0 + 1->i8 ≠ jm->catF x0 (fun (k:Nat)=>cMach (mach r k)) (fun (j:Nat)=>List.getD [[AV.sl 2 (0 + (mach r x0).changes.length) fun (i:Nat)=>cSpan ((mach r x0).changes.getD i default),iv (mach r x0).rate]] j (TI.za ti42)) i8=cMach (mach r i8))
 (o27:qo20_3 r jm jf fun x0=>chLen r jm x0=chLen r jm (x0 + 1))
 (o28:qo20_3 r jm jf fun x0=>x0 + 1<=r.machines.length)
 (o29:qo20_3 r jm jf fun x0=>r.machines.length - (x0 + 1) < r.machines.length - x0)
 (o30:qo20_4 r jm jf fun x0=>0=(↑0:Int))
 (o31:qo20_4 r jm jf fun x0=>x0=r.machines.length)
 (o32:qo20_4 r jm jf fun x0=>chLen r jm x0=chLen r jm r.machines.length)
 (o33:qo20_4 r jm jf fun x0=>nwLen r jf 0=0)
 (o34:qo20_4 r jm jf fun x0=>0<=r.found.length)
 (o35:qo20_5 r jm jf fun x0 x13=>0<=(x13:Int))
 (o36:qo20_5 r jm jf fun x0 x13=>(x13:Int) < (↑(r.found.length):Int))
 (o37:qo20_6 r jm jf fun x0 x13=>0 + (fnd r x13).new.length<=65536)
 (o38:qo20_6 r jm jf fun x0 x13=>0 + (fnd r x13).frm.length<=65536)
 (o39:qo20_6 r jm jf fun x0 x13=>x13 + 1<=65536)
 (o40:qo20_6 r jm jf fun x0 x13=>jf=x13)
 (o41:qo20_6 r jm jf fun x0 x13=>inI ((x13:Int) + 1))
 (o42:qo20_6 r jm jf fun x0 x13=>(x13:Int) + 1=(↑(x13 + 1):Int))
 (o43:qo20_6 r jm jf fun x0 x13=>(fnd r x13).minute=(fnd r jf).minute)
 (o44:qo20_6 r jm jf fun x0 x13=>0 + (fnd r x13).frm.length=(fnd r jf).frm.length)
 (o45:qo20_6 r jm jf fun x0 x13 => ∀ (i27:Nat),i27 < (fnd r jf).frm.length -> [iv ((fnd r x13).frm.getD i27 0)] = [iv ((fnd r jf).frm.getD i27 0)])
 (o46:qo20_6 r jm jf fun x0 x13=>0 + (fnd r x13).new.length=nwLen r jf (x13 + 1))
 (o47:qo20_6 r jm jf fun x0 x13 => ∀ (i29:Nat),i29 < 0 + (fnd r x13).new.length -> [iv ((fnd r x13).new.getD i29 0)] = [iv ((fnd r jf).new.getD i29 0)])
 (o48:qo20_6 r jm jf fun x0 x13=>x13 + 1<=r.found.length)
 (o49:qo20_6 r jm jf fun x0 x13=>r.found.length - (x13 + 1) < r.found.length - x13)
 (o50:qo20_7 r jm jf fun x0 x13=>0 + (fnd r x13).new.length<=65536)
 (o51:qo20_7 r jm jf fun x0 x13=>0 + (fnd r x13).frm.length<=65536)
 (o52:qo20_7 r jm jf fun x0 x13=>x13 + 1<=65536)
 (o53:qo20_7 r jm jf fun x0 x13=>jf < x13 ∨ x13 + 1<=jf)
 (o54:qo20_7 r jm jf fun x0 x13=>inI ((x13:Int) + 1))
 (o55:qo20_7 r jm jf fun x0 x13=>(x13:Int) + 1=(↑(x13 + 1):Int))
 (o56:qo20_7 r jm jf fun x0 x13 => ∀ (i34:Nat),i34 < x13 + 1->i34 ≠ jf->catF x13 (fun (k:Nat)=>cFnd (fnd r k)) (fun (j:Nat)=>List.getD [[iv (fnd r x13).minute,AV.sl 1 (0 + (fnd r x13).new.length) fun (i:Nat)=>[iv ((fnd r x13).new.getD i 0)],AV.sl 1 (0 + (fnd r x13).frm.length) fun (i:Nat)=>[iv ((fnd r x13).frm.getD i 0)]]] j (TI.za ti32)) i34=cFnd (fnd r i34))
 (o57:qo20_7 r jm jf fun x0 x13=>nwLen r jf x13=nwLen r jf (x13 + 1))
 (o58:qo20_7 r jm jf fun x0 x13=>x13 + 1<=r.found.length)
 (o59:qo20_7 r jm jf fun x0 x13=>r.found.length - (x13 + 1) < r.found.length - x13)
 (o60:qo20_4 r jm jf fun x0 => ∀ (x13:Nat),x13<=r.found.length->decide ((x13:Int) < (↑(r.found.length):Int))=false->x13=r.found.length)
 (o61:qo20_4 r jm jf fun x0 => ∀ (x13:Nat),x13<=r.found.length->decide ((x13:Int) < (↑(r.found.length):Int))=false->nwLen r jf x13=nwLen r jf r.found.length)
  (l:List (Nat × Nat)) (hl:l.map (·.1)=(OutSpec.hout (ou20 r jm jf)).map (·.1)) (hnd:(l.map (·.2)).Nodup) :
  Triple Try.prog 20 (OutSpec.at (ou20 r jm jf) l):=by
 refine triple_out Try.func20 rfl Try.call20 T0_ok _ _ _ _ l rfl (Nat.le_of_ble_eq_true (by kernel_rfl)) hl hnd (by kernel_rfl) (by kernel_rfl) (by kernel_rfl) ?_
 intro hp C hC hE
 obtain ⟨P,w0,E0,av,hA⟩:=C
 subst hC
 refine swp_seq ?_
 refine sR (kt:=[1,2]) (kh:=[0,8]) (q:=True/\True/\True) (st':=ASt.mk [(1,.ptr 0 []),(2,.ptr 8 [])] [(0,.cells 25 (cRun r)),(8,.cells 25 [iv 0,iv 0,nilv,nilv])] 16) (by kernel_rfl) ⟨tv,tv,tv⟩ ?_
 refine swp_seq ?_
 refine sR (kt:=[1,2,3]) (kh:=[0,8,56]) (q:=True/\True/\True/\True/\True/\True/\True/\True) (st':=ASt.mk [(1,.ptr 0 []),(2,.ptr 8 []),(3,.ptr 56 [])] [(0,.cells 25 (cRun r)),(8,.cells 25 [iv 0,iv 0,nilv,nilv]),(56,.cells 25 [iv r.plates,iv r.last,nilv,nilv])] 72) (by kernel_rfl) ⟨tv,tv,tv,tv,tv,tv,tv,tv⟩ ?_
 refine swp_seq (swp_seq ?_)
 refine sR (kt:=[1,2,3,4]) (kh:=[0,8,56]) (q:=True/\True) (st':=ASt.mk [(1,.ptr 0 []),(2,.ptr 8 []),(3,.ptr 56 []),(4,iv 0)] [(0,.cells 25 (cRun r)),(8,.cells 25 [iv 0,iv 0,nilv,nilv]),(56,.cells 25 [iv r.plates,iv r.last,nilv,nilv])] 80) (by kernel_rfl) ⟨tv,tv⟩ ?_
 refine swp_block ?_
 refine swp_loopA (Hint.ann (h20xa r jm jf) [(1,AV.ptr 0 []),(2,AV.ptr 8 []),(3,AV.ptr 56 [])] [(0,OB.cells 25 (cRun r)),(8,OB.cells 25 [iv 0,iv 0,nilv,nilv])] 10080) (ent_q hE [] [(0,.same 0),(8,.same 8),(56,.same 56),(5000,.nil),(5002,.nil)] [] [0,8] (((some (Src.same 0)=some (Src.same 0)/\nilP = [])/\(some (Src.same 8)=some (Src.same 8)/\nilP = [])/\(some (Src.same 56)=some (Src.same 56)/\nilP = [])/\(iv 0=iv (↑0:Int)/\nilN = [])/\True)/\((OB.cells 25 (cRun r)=OB.cells 25 (cRun r)/\true=true)/\(OB.cells 25 [iv 0,iv 0,nilv,nilv]=OB.cells 25 [iv 0,iv 0,nilv,nilv]/\true=true)/\(25=25/\((iv r.plates=iv r.plates/\nilN = [])/\(iv r.last=iv r.last/\nilN = [])/\some Src.nil=some Src.nil/\(nilv=nilv/\nilN = [])/\True)/\true=true)/\0=0/\chLen r jm 0=0/\True)/\T2) (by kernel_rfl) (by kernel_rfl) ⟨⟨⟨rfl,rfl⟩,⟨rfl,rfl⟩,⟨rfl,rfl⟩,⟨(congrArg iv (o0 hp)),rfl⟩,tv⟩,⟨⟨rfl,rfl⟩,⟨rfl,rfl⟩,⟨rfl,⟨⟨rfl,rfl⟩,⟨rfl,rfl⟩,rfl,⟨rfl,rfl⟩,tv⟩,rfl⟩,rfl,(o1 hp),tv⟩,rfl,rfl⟩) (o2 hp) (fun (x0:Nat) hx0 => ?_)
 refine swp_seq (swp_seq ?_)
 refine sR (kt:=[1,2,3,4,16]) (kh:=[0,8,56,5000,5002]) (q:=True/\True/\True/\True/\True/\True) (st':=ASt.mk [(1,.ptr 0 []),(2,.ptr 8 []),(3,.ptr 56 []),(4,iv (x0:Int)),(16,bv (decide ((x0:Int) < (↑(r.machines.length):Int))))] [(0,.cells 25 (cRun r)),(8,.cells 25 [iv 0,iv 0,nilv,nilv]),(56,.cells 25 [iv r.plates,iv r.last,.vec 5000,nilv]),(5000,.vecx 42 2 x0 (fun (k:Nat)=>cMach (mach r k)) jm [.vec 5002,iv (mach r jm).rate]),(5002,.vec 37 2 (chLen r jm x0) fun (p:Nat)=>cSpan (chg (mach r jm) p))] 10120) (by kernel_rfl) ⟨tv,tv,tv,tv,tv,tv⟩ ?_
 refine swp_cond (decide ((x0:Int) < (↑(r.machines.length):Int))) (by kernel_rfl) (fun h1 => ?_) (fun h1 => ?_)
 ·refine swp_skip (swp_seq (swp_block ?_))
  refine swp_cases (eqN x0 jm) (fun h2 => ?_) (fun h2 => ?_)
  ·refine swp_region T0_ok mixed (cs:=[(17,focS),(18,focS)]) (kt:=[1,2,3,4]) (kh:=[0,8,56,10264,10192]) (q:=True/\True/\True/\True/\True/\True/\(0<=(x0:Int)/\(x0:Int) < (↑(r.machines.length):Int))/\True/\True/\0 + (mach r x0).changes.length<=65536/\True/\True/\True/\(0<=(x0:Int)/\(x0:Int) < (↑(r.machines.length):Int))/\True/\True/\True/\True/\(x0 + 1<=65536/\jm=x0)/\True/\True/\True) (st':=ASt.mk [(1,.ptr 0 []),(2,.ptr 8 []),(3,.ptr 56 []),(4,iv (x0:Int))] [(0,.cells 25 (cRun r)),(8,.cells 25 [iv 0,iv 0,nilv,nilv]),(56,.cells 25 [iv r.plates,iv r.last,.vec 10264,nilv]),(10264,.vecx 42 2 (x0 + 1) (fun (k:Nat)=>cMach (mach r k)) jm [.vec 10192,iv (mach r x0).rate]),(10192,.vec 37 2 (0 + (mach r x0).changes.length) fun (i:Nat)=>cSpan ((mach r x0).changes.getD i default))] 10288) (by kernel_rfl) ⟨tv,tv,tv,tv,tv,tv,⟨(o3 hp x0 hx0 h1 h2),(o4 hp x0 hx0 h1 h2)⟩,tv,tv,(o5 hp x0 hx0 h1 h2),tv,tv,tv,⟨(o6 hp x0 hx0 h1 h2),(o7 hp x0 hx0 h1 h2)⟩,tv,tv,tv,tv,⟨(o8 hp x0 hx0 h1 h2),(o9 hp x0 hx0 h1 h2)⟩,tv,tv,tv⟩ ?_
   refine sR (kt:=[1,2,3,4]) (kh:=[0,8,56,10264,10192]) (q:=True/\inI ((x0:Int) + 1)/\True/\True) (st':=ASt.mk [(1,.ptr 0 []),(2,.ptr 8 []),(3,.ptr 56 []),(4,iv ((x0:Int) + 1))] [(0,.cells 25 (cRun r)),(8,.cells 25 [iv 0,iv 0,nilv,nilv]),(56,.cells 25 [iv r.plates,iv r.last,.vec 10264,nilv]),(10264,.vecx 42 2 (x0 + 1) (fun (k:Nat)=>cMach (mach r k)) jm [.vec 10192,iv (mach r x0).rate]),(10192,.vec 37 2 (0 + (mach r x0).changes.length) fun (i:Nat)=>cSpan ((mach r x0).changes.getD i default))] 10312) (by kernel_rfl) ⟨tv,(o10 hp x0 hx0 h1 h2),tv,tv⟩ ?_
   exact loop_next (Hint.ann (h20xa r jm jf) [(1,AV.ptr 0 []),(2,AV.ptr 8 []),(3,AV.ptr 56 [])] [(0,OB.cells 25 (cRun r)),(8,OB.cells 25 [iv 0,iv 0,nilv,nilv])] 10080) x0 (ent_q hE [] [(0,.same 0),(8,.same 8),(56,.same 56),(5000,.same 10264),(5002,.same 10192)] [] [0,8] (((some (Src.same 0)=some (Src.same 0)/\nilP = [])/\(some (Src.same 8)=some (Src.same 8)/\nilP = [])/\(some (Src.same 56)=some (Src.same 56)/\nilP = [])/\(iv ((x0:Int) + 1)=iv (↑(x0 + 1):Int)/\nilN = [])/\True)/\((OB.cells 25 (cRun r)=OB.cells 25 (cRun r)/\true=true)/\(OB.cells 25 [iv 0,iv 0,nilv,nilv]=OB.cells 25 [iv 0,iv 0,nilv,nilv]/\true=true)/\(25=25/\((iv r.plates=iv r.plates/\nilN = [])/\(iv r.last=iv r.last/\nilN = [])/\some (Src.same 10264)=some (Src.same 10264)/\(nilv=nilv/\nilN = [])/\True)/\true=true)/\(42=42/\2=2/\x0 + 1=x0 + 1/\jm=jm/\(∀ (i3:Nat),i3 < x0 + 1->i3 ≠ jm->cMach (mach r i3)=cMach (mach r i3))/\(some (Src.same 10192)=some (Src.same 10192)/\(iv (mach r x0).rate=iv (mach r jm).rate/\nilN = [])/\True)/\true=true)/\(37=37/\2=2/\0 + (mach r x0).changes.length=chLen r jm (x0 + 1) /\ ∀ (i6:Nat),i6 < 0 + (mach r x0).changes.length->cSpan ((mach r x0).changes.getD i6 default)=cSpan (chg (mach r jm) i6))/\True)/\T2) (by kernel_rfl) (by kernel_rfl) ⟨⟨⟨rfl,rfl⟩,⟨rfl,rfl⟩,⟨rfl,rfl⟩,⟨(congrArg iv (o11 hp x0 hx0 h1 h2)),rfl⟩,tv⟩,⟨⟨rfl,rfl⟩,⟨rfl,rfl⟩,⟨rfl,⟨⟨rfl,rfl⟩,⟨rfl,rfl⟩,rfl,⟨rfl,rfl⟩,tv⟩,rfl⟩,⟨rfl,rfl,rfl,rfl,(fun i3=>(fun h4=>(fun h5=>rfl))),⟨rfl,⟨(congrArg iv (o12 hp x0 hx0 h1 h2)),rfl⟩,tv⟩,rfl⟩,⟨rfl,rfl,(o13 hp x0 hx0 h1 h2),(fun i6=>(fun h7=>(o14 hp x0 hx0 h1 h2 i6 h7)))⟩,tv⟩,rfl,rfl⟩) (o15 hp x0 hx0 h1 h2) (o16 hp x0 hx0 h1 h2)
  ·refine sR (kt:=[1,2,3,4]) (kh:=[0,8,56,10264,5002]) (q:=True/\True/\True/\True/\True/\True/\(0<=(x0:Int)/\(x0:Int) < (↑(r.machines.length):Int))/\True/\True/\0 + (mach r x0).changes.length<=65536/\True/\True/\True/\(0<=(x0:Int)/\(x0:Int) < (↑(r.machines.length):Int))/\True/\True/\True/\True/\(x0 + 1<=65536/\(jm < x0 ∨ x0 + 1<=jm))/\True/\True/\True) (st':=ASt.mk [(1,.ptr 0 []),(2,.ptr 8 []),(3,.ptr 56 []),(4,iv (x0:Int))] [(0,.cells 25 (cRun r)),(8,.cells 25 [iv 0,iv 0,nilv,nilv]),(56,.cells 25 [iv r.plates,iv r.last,.vec 10264,nilv]),(10264,.vecx 42 2 (x0 + 1) (catF x0 (fun (k:Nat)=>cMach (mach r k)) fun (j:Nat)=>List.getD [[.sl 2 (0 + (mach r x0).changes.length) fun (i:Nat)=>cSpan ((mach r x0).changes.getD i default),iv (mach r x0).rate]] j (TI.za ti42)) jm [.vec 5002,iv (mach r jm).rate]),(5002,.vec 37 2 (chLen r jm x0) fun (p:Nat)=>cSpan (chg (mach r jm) p))] 10288) (by kernel_rfl) ⟨tv,tv,tv,tv,tv,tv,⟨(o17 hp x0 hx0 h1 h2),(o18 hp x0 hx0 h1 h2)⟩,tv,tv,(o19 hp x0 hx0 h1 h2),tv,tv,tv,⟨(o20 hp x0 hx0 h1 h2),(o21 hp x0 hx0 h1 h2)⟩,tv,tv,tv,tv,⟨(o22 hp x0 hx0 h1 h2),(o23 hp x0 hx0 h1 h2)⟩,tv,tv,tv⟩ ?_
   refine sR (kt:=[1,2,3,4]) (kh:=[0,8,56,10264,5002]) (q:=True/\inI ((x0:Int) + 1)/\True/\True) (st':=ASt.mk [(1,.ptr 0 []),(2,.ptr 8 []),(3,.ptr 56 []),(4,iv ((x0:Int) + 1))] [(0,.cells 25 (cRun r)),(8,.cells 25 [iv 0,iv 0,nilv,nilv]),(56,.cells 25 [iv r.plates,iv r.last,.vec 10264,nilv]),(10264,.vecx 42 2 (x0 + 1) (catF x0 (fun (k:Nat)=>cMach (mach r k)) fun (j:Nat)=>List.getD [[.sl 2 (0 + (mach r x0).changes.length) fun (i:Nat)=>cSpan ((mach r x0).changes.getD i default),iv (mach r x0).rate]] j (TI.za ti42)) jm [.vec 5002,iv (mach r jm).rate]),(5002,.vec 37 2 (chLen r jm x0) fun (p:Nat)=>cSpan (chg (mach r jm) p))] 10312) (by kernel_rfl) ⟨tv,(o24 hp x0 hx0 h1 h2),tv,tv⟩ ?_
   exact loop_next (Hint.ann (h20xa r jm jf) [(1,AV.ptr 0 []),(2,AV.ptr 8 []),(3,AV.ptr 56 [])] [(0,OB.cells 25 (cRun r)),(8,OB.cells 25 [iv 0,iv 0,nilv,nilv])] 10080) x0 (ent_q hE [] [(0,.same 0),(8,.same 8),(56,.same 56),(5000,.same 10264),(5002,.same 5002)] [] [0,8] (((some (Src.same 0)=some (Src.same 0)/\nilP = [])/\(some (Src.same 8)=some (Src.same 8)/\nilP = [])/\(some (Src.same 56)=some (Src.same 56)/\nilP = [])/\(iv ((x0:Int) + 1)=iv (↑(x0 + 1):Int)/\nilN = [])/\True)/\((OB.cells 25 (cRun r)=OB.cells 25 (cRun r)/\true=true)/\(OB.cells 25 [iv 0,iv 0,nilv,nilv]=OB.cells 25 [iv 0,iv 0,nilv,nilv]/\true=true)/\(25=25/\((iv r.plates=iv r.plates/\nilN = [])/\(iv r.last=iv r.last/\nilN = [])/\some (Src.same 10264)=some (Src.same 10264)/\(nilv=nilv/\nilN = [])/\True)/\true=true)/\(42=42/\2=2/\x0 + 1=x0 + 1/\jm=jm/\(∀ (i8:Nat),i8 < x0 + 1->i8 ≠ jm->catF x0 (fun (k:Nat)=>cMach (mach r k)) (fun (j:Nat)=>List.getD [[AV.sl 2 (0 + (mach r x0).changes.length) fun (i:Nat)=>cSpan ((mach r x0).changes.getD i default),iv (mach r x0).rate]] j (TI.za ti42)) i8=cMach (mach r i8))/\(some (Src.same 5002)=some (Src.same 5002)/\(iv (mach r jm).rate=iv (mach r jm).rate/\nilN = [])/\True)/\true=true)/\(37=37/\2=2/\chLen r jm x0=chLen r jm (x0 + 1) /\ ∀ (i11:Nat),i11 < chLen r jm x0->cSpan (chg (mach r jm) i11)=cSpan (chg (mach r jm) i11))/\True)/\T2) (by kernel_rfl) (by kernel_rfl) ⟨⟨⟨rfl,rfl⟩,⟨rfl,rfl⟩,⟨rfl,rfl⟩,⟨(congrArg iv (o25 hp x0 hx0 h1 h2)),rfl⟩,tv⟩,⟨⟨rfl,rfl⟩,⟨rfl,rfl⟩,⟨rfl,⟨⟨rfl,rfl⟩,⟨rfl,rfl⟩,rfl,⟨rfl,rfl⟩,tv⟩,rfl⟩,⟨rfl,rfl,rfl,rfl,(fun i8=>(fun h9=>(fun h10=>(o26 hp x0 hx0 h1 h2 i8 h9 h10)))),⟨rfl,⟨rfl,rfl⟩,tv⟩,rfl⟩,⟨rfl,rfl,(o27 hp x0 hx0 h1 h2),(fun i11=>(fun h12=>rfl))⟩,tv⟩,rfl,rfl⟩) (o28 hp x0 hx0 h1 h2) (o29 hp x0 hx0 h1 h2)
 ·refine swp_exit (swp_seq (swp_seq ?_))
  refine sR (kt:=[1,2,3,5]) (kh:=[0,8,56,5000,5002]) (q:=True/\True) (st':=ASt.mk [(1,.ptr 0 []),(2,.ptr 8 []),(3,.ptr 56 []),(5,iv 0)] [(0,.cells 25 (cRun r)),(8,.cells 25 [iv 0,iv 0,nilv,nilv]),(56,.cells 25 [iv r.plates,iv r.last,.vec 5000,nilv]),(5000,.vecx 42 2 x0 (fun (k:Nat)=>cMach (mach r k)) jm [.vec 5002,iv (mach r jm).rate]),(5002,.vec 37 2 (chLen r jm x0) fun (p:Nat)=>cSpan (chg (mach r jm) p))] 10128) (by kernel_rfl) ⟨tv,tv⟩ ?_
  refine swp_block ?_
  refine swp_loopA (Hint.ann (h20xb r jm jf) [(1,AV.ptr 0 []),(2,AV.ptr 8 []),(3,AV.ptr 56 [])] [(0,OB.cells 25 (cRun r)),(8,OB.cells 25 [iv 0,iv 0,nilv,nilv])] 20128) (ent_q hE [] [(0,.same 0),(8,.same 8),(56,.same 56),(5000,.same 5000),(5002,.same 5002),(5001,.nil),(5003,.nil)] [] [0,8] (((some (Src.same 0)=some (Src.same 0)/\nilP = [])/\(some (Src.same 8)=some (Src.same 8)/\nilP = [])/\(some (Src.same 56)=some (Src.same 56)/\nilP = [])/\(iv 0=iv (↑0:Int)/\nilN = [])/\True)/\((OB.cells 25 (cRun r)=OB.cells 25 (cRun r)/\true=true)/\(OB.cells 25 [iv 0,iv 0,nilv,nilv]=OB.cells 25 [iv 0,iv 0,nilv,nilv]/\true=true)/\(25=25/\((iv r.plates=iv r.plates/\nilN = [])/\(iv r.last=iv r.last/\nilN = [])/\some (Src.same 5000)=some (Src.same 5000)/\some Src.nil=some Src.nil/\True)/\true=true)/\(42=42/\2=2/\x0=r.machines.length/\jm=jm/\(∀ (i14:Nat),i14 < x0->i14 ≠ jm->cMach (mach r i14)=cMach (mach r i14))/\(some (Src.same 5002)=some (Src.same 5002)/\(iv (mach r jm).rate=iv (mach r jm).rate/\nilN = [])/\True)/\true=true)/\(37=37/\2=2/\chLen r jm x0=chLen r jm r.machines.length /\ ∀ (i17:Nat),i17 < chLen r jm x0->cSpan (chg (mach r jm) i17)=cSpan (chg (mach r jm) i17))/\0=0/\nwLen r jf 0=0/\True)/\T2) (by kernel_rfl) (by kernel_rfl) ⟨⟨⟨rfl,rfl⟩,⟨rfl,rfl⟩,⟨rfl,rfl⟩,⟨(congrArg iv (o30 hp x0 hx0 h1)),rfl⟩,tv⟩,⟨⟨rfl,rfl⟩,⟨rfl,rfl⟩,⟨rfl,⟨⟨rfl,rfl⟩,⟨rfl,rfl⟩,rfl,rfl,tv⟩,rfl⟩,⟨rfl,rfl,(o31 hp x0 hx0 h1),rfl,(fun i14=>(fun h15=>(fun h16=>rfl))),⟨rfl,⟨rfl,rfl⟩,tv⟩,rfl⟩,⟨rfl,rfl,(o32 hp x0 hx0 h1),(fun i17=>(fun h18=>rfl))⟩,rfl,(o33 hp x0 hx0 h1),tv⟩,rfl,rfl⟩) (o34 hp x0 hx0 h1) (fun (x13:Nat) hx13 => ?_)
  refine swp_seq (swp_seq ?_)
  refine sR (kt:=[1,2,3,5,43]) (kh:=[0,8,56,5000,5001,5002,5003]) (q:=True/\True/\True/\True/\True/\True) (st':=ASt.mk [(1,.ptr 0 []),(2,.ptr 8 []),(3,.ptr 56 []),(5,iv (x13:Int)),(43,bv (decide ((x13:Int) < (↑(r.found.length):Int))))] [(0,.cells 25 (cRun r)),(8,.cells 25 [iv 0,iv 0,nilv,nilv]),(56,.cells 25 [iv r.plates,iv r.last,.vec 5000,.vec 5001]),(5000,.vecx 42 2 r.machines.length (fun (k:Nat)=>cMach (mach r k)) jm [.vec 5002,iv (mach r jm).rate]),(5001,.vecx 32 3 x13 (fun (k:Nat)=>cFnd (fnd r k)) jf [iv (fnd r jf).minute,.vec 5003,aInts (fnd r jf).frm]),(5002,.vec 37 2 (chLen r jm r.machines.length) fun (p:Nat)=>cSpan (chg (mach r jm) p)),(5003,.vec 3 1 (nwLen r jf x13) fun (p:Nat)=>[iv ((fnd r jf).new.getD p 0)])] 20168) (by kernel_rfl) ⟨tv,tv,tv,tv,tv,tv⟩ ?_
  refine swp_cond (decide ((x13:Int) < (↑(r.found.length):Int))) (by kernel_rfl) (fun h19 => ?_) (fun h19 => ?_)
  ·refine swp_skip (swp_seq (swp_block (swp_seq ?_)))
   refine sR (kt:=[1,2,3,5,6]) (kh:=[0,8,56,20208,5000,5001,5002,5003]) (q:=True/\True/\True/\(0<=(x13:Int)/\(x13:Int) < (↑(r.found.length):Int))/\True/\True/\True/\True) (st':=ASt.mk [(1,.ptr 0 []),(2,.ptr 8 []),(3,.ptr 56 []),(5,iv (x13:Int)),(6,.ptr 20208 [])] [(0,.cells 25 (cRun r)),(8,.cells 25 [iv 0,iv 0,nilv,nilv]),(56,.cells 25 [iv r.plates,iv r.last,.vec 5000,.vec 5001]),(20208,.cells 32 (cFnd (fnd r x13))),(5000,.vecx 42 2 r.machines.length (fun (k:Nat)=>cMach (mach r k)) jm [.vec 5002,iv (mach r jm).rate]),(5001,.vecx 32 3 x13 (fun (k:Nat)=>cFnd (fnd r k)) jf [iv (fnd r jf).minute,.vec 5003,aInts (fnd r jf).frm]),(5002,.vec 37 2 (chLen r jm r.machines.length) fun (p:Nat)=>cSpan (chg (mach r jm) p)),(5003,.vec 3 1 (nwLen r jf x13) fun (p:Nat)=>[iv ((fnd r jf).new.getD p 0)])] 20224) (by kernel_rfl) ⟨tv,tv,tv,⟨(o35 hp x0 hx0 h1 x13 hx13 h19),(o36 hp x0 hx0 h1 x13 hx13 h19)⟩,tv,tv,tv,tv⟩ ?_
   refine swp_cases (eqN x13 jf) (fun h20 => ?_) (fun h20 => ?_)
   ·refine swp_region T0_ok mixed (cs:=[(13,focS),(14,focS)]) (kt:=[1,2,3,5]) (kh:=[0,8,56,5000,20336,20280,20312,5002]) (q:=True/\True/\True/\True/\True/\True/\True/\0 + (fnd r x13).new.length<=65536/\True/\True/\True/\0 + (fnd r x13).frm.length<=65536/\True/\True/\(x13 + 1<=65536/\jf=x13)/\True/\True/\True) (st':=ASt.mk [(1,.ptr 0 []),(2,.ptr 8 []),(3,.ptr 56 []),(5,iv (x13:Int))] [(0,.cells 25 (cRun r)),(8,.cells 25 [iv 0,iv 0,nilv,nilv]),(56,.cells 25 [iv r.plates,iv r.last,.vec 5000,.vec 20336]),(5000,.vecx 42 2 r.machines.length (fun (k:Nat)=>cMach (mach r k)) jm [.vec 5002,iv (mach r jm).rate]),(20336,.vecx 32 3 (x13 + 1) (fun (k:Nat)=>cFnd (fnd r k)) jf [iv (fnd r x13).minute,.vec 20280,.vec 20312]),(20280,.vec 3 1 (0 + (fnd r x13).new.length) fun (i:Nat)=>[iv ((fnd r x13).new.getD i 0)]),(20312,.vec 3 1 (0 + (fnd r x13).frm.length) fun (i:Nat)=>[iv ((fnd r x13).frm.getD i 0)]),(5002,.vec 37 2 (chLen r jm r.machines.length) fun (p:Nat)=>cSpan (chg (mach r jm) p))] 20360) (by kernel_rfl) ⟨tv,tv,tv,tv,tv,tv,tv,(o37 hp x0 hx0 h1 x13 hx13 h19 h20),tv,tv,tv,(o38 hp x0 hx0 h1 x13 hx13 h19 h20),tv,tv,⟨(o39 hp x0 hx0 h1 x13 hx13 h19 h20),(o40 hp x0 hx0 h1 x13 hx13 h19 h20)⟩,tv,tv,tv⟩ ?_
    refine sR (kt:=[1,2,3,5]) (kh:=[0,8,56,5000,20336,5002,20280,20312]) (q:=True/\inI ((x13:Int) + 1)/\True/\True) (st':=ASt.mk [(1,.ptr 0 []),(2,.ptr 8 []),(3,.ptr 56 []),(5,iv ((x13:Int) + 1))] [(0,.cells 25 (cRun r)),(8,.cells 25 [iv 0,iv 0,nilv,nilv]),(56,.cells 25 [iv r.plates,iv r.last,.vec 5000,.vec 20336]),(5000,.vecx 42 2 r.machines.length (fun (k:Nat)=>cMach (mach r k)) jm [.vec 5002,iv (mach r jm).rate]),(20336,.vecx 32 3 (x13 + 1) (fun (k:Nat)=>cFnd (fnd r k)) jf [iv (fnd r x13).minute,.vec 20280,.vec 20312]),(5002,.vec 37 2 (chLen r jm r.machines.length) fun (p:Nat)=>cSpan (chg (mach r jm) p)),(20280,.vec 3 1 (0 + (fnd r x13).new.length) fun (i:Nat)=>[iv ((fnd r x13).new.getD i 0)]),(20312,.vec 3 1 (0 + (fnd r x13).frm.length) fun (i:Nat)=>[iv ((fnd r x13).frm.getD i 0)])] 20384) (by kernel_rfl) ⟨tv,(o41 hp x0 hx0 h1 x13 hx13 h19 h20),tv,tv⟩ ?_
    exact loop_next (Hint.ann (h20xb r jm jf) [(1,AV.ptr 0 []),(2,AV.ptr 8 []),(3,AV.ptr 56 [])] [(0,OB.cells 25 (cRun r)),(8,OB.cells 25 [iv 0,iv 0,nilv,nilv])] 20128) x13 (ent_q hE [20312] [(0,.same 0),(8,.same 8),(56,.same 56),(5000,.same 5000),(5002,.same 5002),(5001,.same 20336),(5003,.same 20280)] [] [0,8,5002] (((some (Src.same 0)=some (Src.same 0)/\nilP = [])/\(some (Src.same 8)=some (Src.same 8)/\nilP = [])/\(some (Src.same 56)=some (Src.same 56)/\nilP = [])/\(iv ((x13:Int) + 1)=iv (↑(x13 + 1):Int)/\nilN = [])/\True)/\((OB.cells 25 (cRun r)=OB.cells 25 (cRun r)/\true=true)/\(OB.cells 25 [iv 0,iv 0,nilv,nilv]=OB.cells 25 [iv 0,iv 0,nilv,nilv]/\true=true)/\(25=25/\((iv r.plates=iv r.plates/\nilN = [])/\(iv r.last=iv r.last/\nilN = [])/\some (Src.same 5000)=some (Src.same 5000)/\some (Src.same 20336)=some (Src.same 20336)/\True)/\true=true)/\(42=42/\2=2/\r.machines.length=r.machines.length/\jm=jm/\(∀ (i21:Nat),i21 < r.machines.length->i21 ≠ jm->cMach (mach r i21)=cMach (mach r i21))/\(some (Src.same 5002)=some (Src.same 5002)/\(iv (mach r jm).rate=iv (mach r jm).rate/\nilN = [])/\True)/\true=true)/\(((OB.vec 37 2 (chLen r jm r.machines.length) fun (p:Nat)=>cSpan (chg (mach r jm) p))=OB.vec 37 2 (chLen r jm r.machines.length) fun (p:Nat)=>cSpan (chg (mach r jm) p))/\true=true)/\(32=32/\3=3/\x13 + 1=x13 + 1/\jf=jf/\(∀ (i24:Nat),i24 < x13 + 1->i24 ≠ jf->cFnd (fnd r i24)=cFnd (fnd r i24))/\((iv (fnd r x13).minute=iv (fnd r jf).minute/\nilN = [])/\some (Src.same 20280)=some (Src.same 20280)/\(1=1/\0 + (fnd r x13).frm.length=(fnd r jf).frm.length /\ ∀ (i27:Nat),i27 < (fnd r jf).frm.length -> [iv ((fnd r x13).frm.getD i27 0)] = [iv ((fnd r jf).frm.getD i27 0)])/\True)/\true=true)/\(3=3/\1=1/\0 + (fnd r x13).new.length=nwLen r jf (x13 + 1) /\ ∀ (i29:Nat),i29 < 0 + (fnd r x13).new.length -> [iv ((fnd r x13).new.getD i29 0)] = [iv ((fnd r jf).new.getD i29 0)])/\True)/\T2) (by kernel_rfl) (by kernel_rfl) ⟨⟨⟨rfl,rfl⟩,⟨rfl,rfl⟩,⟨rfl,rfl⟩,⟨(congrArg iv (o42 hp x0 hx0 h1 x13 hx13 h19 h20)),rfl⟩,tv⟩,⟨⟨rfl,rfl⟩,⟨rfl,rfl⟩,⟨rfl,⟨⟨rfl,rfl⟩,⟨rfl,rfl⟩,rfl,rfl,tv⟩,rfl⟩,⟨rfl,rfl,rfl,rfl,(fun i21=>(fun h22=>(fun h23=>rfl))),⟨rfl,⟨rfl,rfl⟩,tv⟩,rfl⟩,⟨rfl,rfl⟩,⟨rfl,rfl,rfl,rfl,(fun i24=>(fun h25=>(fun h26=>rfl))),⟨⟨(congrArg iv (o43 hp x0 hx0 h1 x13 hx13 h19 h20)),rfl⟩,rfl,⟨rfl,(o44 hp x0 hx0 h1 x13 hx13 h19 h20),(fun i27=>(fun h28=>(o45 hp x0 hx0 h1 x13 hx13 h19 h20 i27 h28)))⟩,tv⟩,rfl⟩,⟨rfl,rfl,(o46 hp x0 hx0 h1 x13 hx13 h19 h20),(fun i29=>(fun h30=>(o47 hp x0 hx0 h1 x13 hx13 h19 h20 i29 h30)))⟩,tv⟩,rfl,rfl⟩) (o48 hp x0 hx0 h1 x13 hx13 h19 h20) (o49 hp x0 hx0 h1 x13 hx13 h19 h20)
   ·refine sR (kt:=[1,2,3,5]) (kh:=[0,8,56,5000,20336,5003,5002]) (q:=True/\True/\True/\True/\True/\True/\True/\0 + (fnd r x13).new.length<=65536/\True/\True/\True/\0 + (fnd r x13).frm.length<=65536/\True/\True/\(x13 + 1<=65536/\(jf < x13 ∨ x13 + 1<=jf))/\True/\True/\True) (st':=ASt.mk [(1,.ptr 0 []),(2,.ptr 8 []),(3,.ptr 56 []),(5,iv (x13:Int))] [(0,.cells 25 (cRun r)),(8,.cells 25 [iv 0,iv 0,nilv,nilv]),(56,.cells 25 [iv r.plates,iv r.last,.vec 5000,.vec 20336]),(5000,.vecx 42 2 r.machines.length (fun (k:Nat)=>cMach (mach r k)) jm [.vec 5002,iv (mach r jm).rate]),(20336,.vecx 32 3 (x13 + 1) (catF x13 (fun (k:Nat)=>cFnd (fnd r k)) fun (j:Nat)=>List.getD [[iv (fnd r x13).minute,.sl 1 (0 + (fnd r x13).new.length) fun (i:Nat)=>[iv ((fnd r x13).new.getD i 0)],.sl 1 (0 + (fnd r x13).frm.length) fun (i:Nat)=>[iv ((fnd r x13).frm.getD i 0)]]] j (TI.za ti32)) jf [iv (fnd r jf).minute,.vec 5003,aInts (fnd r jf).frm]),(5003,.vec 3 1 (nwLen r jf x13) fun (p:Nat)=>[iv ((fnd r jf).new.getD p 0)]),(5002,.vec 37 2 (chLen r jm r.machines.length) fun (p:Nat)=>cSpan (chg (mach r jm) p))] 20360) (by kernel_rfl) ⟨tv,tv,tv,tv,tv,tv,tv,(o50 hp x0 hx0 h1 x13 hx13 h19 h20),tv,tv,tv,(o51 hp x0 hx0 h1 x13 hx13 h19 h20),tv,tv,⟨(o52 hp x0 hx0 h1 x13 hx13 h19 h20),(o53 hp x0 hx0 h1 x13 hx13 h19 h20)⟩,tv,tv,tv⟩ ?_
    refine sR (kt:=[1,2,3,5]) (kh:=[0,8,56,5000,20336,5002,5003]) (q:=True/\inI ((x13:Int) + 1)/\True/\True) (st':=ASt.mk [(1,.ptr 0 []),(2,.ptr 8 []),(3,.ptr 56 []),(5,iv ((x13:Int) + 1))] [(0,.cells 25 (cRun r)),(8,.cells 25 [iv 0,iv 0,nilv,nilv]),(56,.cells 25 [iv r.plates,iv r.last,.vec 5000,.vec 20336]),(5000,.vecx 42 2 r.machines.length (fun (k:Nat)=>cMach (mach r k)) jm [.vec 5002,iv (mach r jm).rate]),(20336,.vecx 32 3 (x13 + 1) (catF x13 (fun (k:Nat)=>cFnd (fnd r k)) fun (j:Nat)=>List.getD [[iv (fnd r x13).minute,.sl 1 (0 + (fnd r x13).new.length) fun (i:Nat)=>[iv ((fnd r x13).new.getD i 0)],.sl 1 (0 + (fnd r x13).frm.length) fun (i:Nat)=>[iv ((fnd r x13).frm.getD i 0)]]] j (TI.za ti32)) jf [iv (fnd r jf).minute,.vec 5003,aInts (fnd r jf).frm]),(5002,.vec 37 2 (chLen r jm r.machines.length) fun (p:Nat)=>cSpan (chg (mach r jm) p)),(5003,.vec 3 1 (nwLen r jf x13) fun (p:Nat)=>[iv ((fnd r jf).new.getD p 0)])] 20384) (by kernel_rfl) ⟨tv,(o54 hp x0 hx0 h1 x13 hx13 h19 h20),tv,tv⟩ ?_
    exact loop_next (Hint.ann (h20xb r jm jf) [(1,AV.ptr 0 []),(2,AV.ptr 8 []),(3,AV.ptr 56 [])] [(0,OB.cells 25 (cRun r)),(8,OB.cells 25 [iv 0,iv 0,nilv,nilv])] 20128) x13 (ent_q hE [] [(0,.same 0),(8,.same 8),(56,.same 56),(5000,.same 5000),(5002,.same 5002),(5001,.same 20336),(5003,.same 5003)] [] [0,8,5002] (((some (Src.same 0)=some (Src.same 0)/\nilP = [])/\(some (Src.same 8)=some (Src.same 8)/\nilP = [])/\(some (Src.same 56)=some (Src.same 56)/\nilP = [])/\(iv ((x13:Int) + 1)=iv (↑(x13 + 1):Int)/\nilN = [])/\True)/\((OB.cells 25 (cRun r)=OB.cells 25 (cRun r)/\true=true)/\(OB.cells 25 [iv 0,iv 0,nilv,nilv]=OB.cells 25 [iv 0,iv 0,nilv,nilv]/\true=true)/\(25=25/\((iv r.plates=iv r.plates/\nilN = [])/\(iv r.last=iv r.last/\nilN = [])/\some (Src.same 5000)=some (Src.same 5000)/\some (Src.same 20336)=some (Src.same 20336)/\True)/\true=true)/\(42=42/\2=2/\r.machines.length=r.machines.length/\jm=jm/\(∀ (i31:Nat),i31 < r.machines.length->i31 ≠ jm->cMach (mach r i31)=cMach (mach r i31))/\(some (Src.same 5002)=some (Src.same 5002)/\(iv (mach r jm).rate=iv (mach r jm).rate/\nilN = [])/\True)/\true=true)/\(((OB.vec 37 2 (chLen r jm r.machines.length) fun (p:Nat)=>cSpan (chg (mach r jm) p))=OB.vec 37 2 (chLen r jm r.machines.length) fun (p:Nat)=>cSpan (chg (mach r jm) p))/\true=true)/\(32=32/\3=3/\x13 + 1=x13 + 1/\jf=jf/\(∀ (i34:Nat),i34 < x13 + 1->i34 ≠ jf->catF x13 (fun (k:Nat)=>cFnd (fnd r k)) (fun (j:Nat)=>List.getD [[iv (fnd r x13).minute,AV.sl 1 (0 + (fnd r x13).new.length) fun (i:Nat)=>[iv ((fnd r x13).new.getD i 0)],AV.sl 1 (0 + (fnd r x13).frm.length) fun (i:Nat)=>[iv ((fnd r x13).frm.getD i 0)]]] j (TI.za ti32)) i34=cFnd (fnd r i34))/\((iv (fnd r jf).minute=iv (fnd r jf).minute/\nilN = [])/\some (Src.same 5003)=some (Src.same 5003)/\(1=1/\(fnd r jf).frm.length=(fnd r jf).frm.length /\ ∀ (i37:Nat),i37 < (fnd r jf).frm.length -> [iv ((fnd r jf).frm.getD i37 0)] = [iv ((fnd r jf).frm.getD i37 0)])/\True)/\true=true)/\(3=3/\1=1/\nwLen r jf x13=nwLen r jf (x13 + 1) /\ ∀ (i39:Nat),i39 < nwLen r jf x13 -> [iv ((fnd r jf).new.getD i39 0)] = [iv ((fnd r jf).new.getD i39 0)])/\True)/\T2) (by kernel_rfl) (by kernel_rfl) ⟨⟨⟨rfl,rfl⟩,⟨rfl,rfl⟩,⟨rfl,rfl⟩,⟨(congrArg iv (o55 hp x0 hx0 h1 x13 hx13 h19 h20)),rfl⟩,tv⟩,⟨⟨rfl,rfl⟩,⟨rfl,rfl⟩,⟨rfl,⟨⟨rfl,rfl⟩,⟨rfl,rfl⟩,rfl,rfl,tv⟩,rfl⟩,⟨rfl,rfl,rfl,rfl,(fun i31=>(fun h32=>(fun h33=>rfl))),⟨rfl,⟨rfl,rfl⟩,tv⟩,rfl⟩,⟨rfl,rfl⟩,⟨rfl,rfl,rfl,rfl,(fun i34=>(fun h35=>(fun h36=>(o56 hp x0 hx0 h1 x13 hx13 h19 h20 i34 h35 h36)))),⟨⟨rfl,rfl⟩,rfl,⟨rfl,rfl,(fun i37=>(fun h38=>rfl))⟩,tv⟩,rfl⟩,⟨rfl,rfl,(o57 hp x0 hx0 h1 x13 hx13 h19 h20),(fun i39=>(fun h40=>rfl))⟩,tv⟩,rfl,rfl⟩) (o58 hp x0 hx0 h1 x13 hx13 h19 h20) (o59 hp x0 hx0 h1 x13 hx13 h19 h20)
  ·refine swp_exit (swp_seq ?_)
   refine sR (kt:=[2]) (kh:=[8,5000,5001,5002,5003]) (q:=True/\True/\True) (st':=ASt.mk [(2,.ptr 8 [])] [(8,.cells 25 [iv r.plates,iv r.last,.vec 5000,.vec 5001]),(5000,.vecx 42 2 r.machines.length (fun (k:Nat)=>cMach (mach r k)) jm [.vec 5002,iv (mach r jm).rate]),(5001,.vecx 32 3 x13 (fun (k:Nat)=>cFnd (fnd r k)) jf [iv (fnd r jf).minute,.vec 5003,aInts (fnd r jf).frm]),(5002,.vec 37 2 (chLen r jm r.machines.length) fun (p:Nat)=>cSpan (chg (mach r jm) p)),(5003,.vec 3 1 (nwLen r jf x13) fun (p:Nat)=>[iv ((fnd r jf).new.getD p 0)])] 20184) (by kernel_rfl) ⟨tv,tv,tv⟩ ?_
   refine swp_ret ?_
   exact ret_o (ASt.mk [(2,AV.ptr 90 [])] [(90,OB.cells 25 [iv r.plates,iv r.last,AV.vec 0,AV.vec 1]),(0,OB.vecx 42 2 r.machines.length (fun (k:Nat)=>cMach (mach r k)) jm [AV.vec 2,iv (mach r jm).rate]),(1,OB.vecx 32 3 r.found.length (fun (k:Nat)=>cFnd (fnd r k)) jf [iv (fnd r jf).minute,AV.vec 3,aInts (fnd r jf).frm]),(2,OB.vec 37 2 (chLen r jm r.machines.length) fun (p:Nat)=>cSpan (chg (mach r jm) p)),(3,OB.vec 3 1 (nwLen r jf r.found.length) fun (p:Nat)=>[iv ((fnd r jf).new.getD p 0)])] 100) (ent_q hE [] [(90,.same 8),(0,.same 5000),(2,.same 5002),(1,.same 5001),(3,.same 5003)] [] [] (((some (Src.same 8)=some (Src.same 8)/\nilP = [])/\True)/\((25=25/\((iv r.plates=iv r.plates/\nilN = [])/\(iv r.last=iv r.last/\nilN = [])/\some (Src.same 5000)=some (Src.same 5000)/\some (Src.same 5001)=some (Src.same 5001)/\True)/\true=true)/\(42=42/\2=2/\r.machines.length=r.machines.length/\jm=jm/\(∀ (i41:Nat),i41 < r.machines.length->i41 ≠ jm->cMach (mach r i41)=cMach (mach r i41))/\(some (Src.same 5002)=some (Src.same 5002)/\(iv (mach r jm).rate=iv (mach r jm).rate/\nilN = [])/\True)/\true=true)/\(32=32/\3=3/\x13=r.found.length/\jf=jf/\(∀ (i44:Nat),i44 < x13->i44 ≠ jf->cFnd (fnd r i44)=cFnd (fnd r i44))/\((iv (fnd r jf).minute=iv (fnd r jf).minute/\nilN = [])/\some (Src.same 5003)=some (Src.same 5003)/\(1=1/\(fnd r jf).frm.length=(fnd r jf).frm.length /\ ∀ (i47:Nat),i47 < (fnd r jf).frm.length -> [iv ((fnd r jf).frm.getD i47 0)] = [iv ((fnd r jf).frm.getD i47 0)])/\True)/\true=true)/\(37=37/\2=2/\chLen r jm r.machines.length=chLen r jm r.machines.length /\ ∀ (i49:Nat),i49 < chLen r jm r.machines.length->cSpan (chg (mach r jm) i49)=cSpan (chg (mach r jm) i49))/\(3=3/\1=1/\nwLen r jf x13=nwLen r jf r.found.length /\ ∀ (i51:Nat),i51 < nwLen r jf x13 -> [iv ((fnd r jf).new.getD i51 0)] = [iv ((fnd r jf).new.getD i51 0)])/\True)/\T2) (by kernel_rfl) (by kernel_rfl) ⟨⟨⟨rfl,rfl⟩,tv⟩,⟨⟨rfl,⟨⟨rfl,rfl⟩,⟨rfl,rfl⟩,rfl,rfl,tv⟩,rfl⟩,⟨rfl,rfl,rfl,rfl,(fun i41=>(fun h42=>(fun h43=>rfl))),⟨rfl,⟨rfl,rfl⟩,tv⟩,rfl⟩,⟨rfl,rfl,(o60 hp x0 hx0 h1 x13 hx13 h19),rfl,(fun i44=>(fun h45=>(fun h46=>rfl))),⟨⟨rfl,rfl⟩,rfl,⟨rfl,rfl,(fun i47=>(fun h48=>rfl))⟩,tv⟩,rfl⟩,⟨rfl,rfl,rfl,(fun i49=>(fun h50=>rfl))⟩,⟨rfl,rfl,(o61 hp x0 hx0 h1 x13 hx13 h19),(fun i51=>(fun h52=>rfl))⟩,tv⟩,rfl,rfl⟩) ((True/\True)/\AV.agg [iv r.plates,iv r.last,AV.vec 0,AV.vec 1]=AV.agg [iv r.plates,iv r.last,AV.vec 0,AV.vec 1]/\some (OB.vecx 42 2 r.machines.length (fun (k:Nat)=>cMach (mach r k)) jm [AV.vec 2,iv (mach r jm).rate])=some (OB.vecx 42 2 r.machines.length (fun (k:Nat)=>cMach (mach r k)) jm [AV.vec 2,iv (mach r jm).rate])/\some (OB.vecx 32 3 r.found.length (fun (k:Nat)=>cFnd (fnd r k)) jf [iv (fnd r jf).minute,AV.vec 3,aInts (fnd r jf).frm])=some (OB.vecx 32 3 r.found.length (fun (k:Nat)=>cFnd (fnd r k)) jf [iv (fnd r jf).minute,AV.vec 3,aInts (fnd r jf).frm])/\some (OB.vec 37 2 (chLen r jm r.machines.length) fun (p:Nat)=>cSpan (chg (mach r jm) p))=some (OB.vec 37 2 (chLen r jm r.machines.length) fun (p:Nat)=>cSpan (chg (mach r jm) p))/\some (OB.vec 3 1 (nwLen r jf r.found.length) fun (p:Nat)=>[iv ((fnd r jf).new.getD p 0)])=some (OB.vec 3 1 (nwLen r jf r.found.length) fun (p:Nat)=>[iv ((fnd r jf).new.getD p 0)])/\True) (by kernel_rfl) ⟨⟨tv,tv⟩,rfl,rfl,rfl,rfl,rfl,tv⟩
theorem to20 (r:Run) (jm jf:Nat) (l:List (Nat × Nat)) (hl:l.map (·.1) = [0,1,2,3]) (hnd:(l.map (·.2)).Nodup):Triple Try.prog 20 ((ou20 r jm jf).at l):=by
  apply wo20
  case hl=>exact hl
  case hnd=>exact hnd
  all_goals (first
    | ((repeat intro _) <;> (try simp only [v0,v1,v2,v3,v4,v5,v6,v7,v8,v9,inI,fits,Go.Sh.small] at *) <;> first | (exact rfl) | omega | exact vz | (simp_all; done) | (simp_all; omega))
    | (intro hp; first | rfl | (simp [chLen]; done) | (simp [nwLen]; done))
    | (intro hp x hx hl2
       have h1:(mach r x).changes.length<=65536:=hp.2.2.1 x
       have h2:=hp.1
       have h3:=hp.2.1
       simp only [decide_eq_true_eq,decide_eq_false_iff_not] at hl2
       first
       | omega
       | (rw [show x=r.machines.length by omega]; done)
       | (rw [nwLen,if_neg (Nat.not_lt_zero _)]; done)
       | (intro e
          first
          | (have e2:=eqN_t e
             subst e2
             first
             | omega
             | (simp only [inI]; omega)
             | rfl
             | (rw [chLen_self]; omega)
             | (intro i hi; rfl))
          | (have e2:=eqN_f e
             first
             | omega
             | (simp only [inI]; omega)
             | (rw [chLen_other e2]; done)
             | (intro i hi hij; exact catF_idx (fun k=>cMach (mach r k)) (by simp only [cMach,aSpans,cSpan,Nat.zero_add]) hi)))
       | (intro y hy hyl
          have h4:=(hp.2.2.2 y).1
          have h5:=(hp.2.2.2 y).2
          simp only [decide_eq_true_eq,decide_eq_false_iff_not] at hyl
          first
          | omega
          | (rw [show y=r.found.length by omega]; done)
          | (intro e
             first
             | (have e2:=eqN_t e
                subst e2
                first
                | omega
                | (simp only [inI]; omega)
                | rfl
                | (rw [nwLen_self]; omega)
                | (intro i hi; rfl))
             | (have e2:=eqN_f e
                first
                | omega
                | (simp only [inI]; omega)
                | (rw [nwLen_other e2]; done)
                | (intro i hi hij; exact catF_idx (fun k=>cFnd (fnd r k)) (by simp only [cFnd,aInts,Nat.zero_add]) hi))))))
def s20o (r:Run) (jm jf:Nat) (id:Nat):CallSpec:=(ou20 r jm jf).at [(0,id),(1,id + 1),(2,id + 2),(3,id + 3)]
theorem t20o (r:Run) (jm jf:Nat) (id:Nat):Triple Try.prog 20 (s20o r jm jf id):=to20 r jm jf _ rfl (by simp)
end Go.Ab
namespace Go.Sh
def exR:Run:=⟨2,10,[⟨[⟨2,5⟩,⟨2,8⟩],3⟩,⟨[⟨4,9⟩,⟨0,9⟩],5⟩],[⟨4,[1,0],[0,1]⟩,⟨6,[-1,1],[0,1]⟩,⟨3,[0,-1],[0]⟩]⟩
def exQ:Run:=⟨2,10,[⟨[⟨2,5⟩,⟨2,8⟩],3⟩,⟨[⟨4,9⟩,⟨0,9⟩],5⟩],[⟨4,[1,0],[0,1]⟩,⟨6,[0,1],[0,1]⟩,⟨3,[0,-1],[0]⟩]⟩
end Go.Sh
namespace Go.Ab
open Go Go.RowKit Go.Proofs Go.Sh Go.En
def s77:CallSpec:={ args:=[],res := .tup [vRun exR,vRun exQ] }
def c77 (id:Nat):CallSpec:=s20o exR 2 1 id
def s77o (r q:Run):CallSpec:={ args:=[],res := .tup [vRun r,vRun q],pre:=r=exR/\q=exQ }
def sw19 (r q:Run):CallSpec:={ args:=[],res:=bv true,pre:=r=exR/\q=exQ }
def c19a (r q:Run):CallSpec:=s77o r q
def c19 (r q:Run):CallSpec:=s37 (whereS q 1) [1]
def s19:CallSpec:={ args:=[],res:=bv true }
end Go.Ab
namespace Go.Ab
open Go Go.RowKit Go.Proofs Go.Sh Go.En
theorem w77 
 (o0:2=Run.plates exR)
 (o1:10=Run.last exR)
 (o2:∀ (i4:Nat),i4 < exR.machines.length->List.getD [[AV.sl 2 2 fun (j:Nat)=>List.getD [[iv 2,iv 5],[iv 2,iv 8]] j (TI.za ti37),iv 3],[AV.sl 2 2 fun (j:Nat)=>List.getD [[iv 4,iv 9],[iv 0,iv 9]] j (TI.za ti37),iv 5]] i4 (TI.za ti42)=cMach (mach exR i4))
 (o3:∀ (i6:Nat),i6 < exR.found.length->List.getD [[iv 4,AV.sl 1 2 fun (j:Nat)=>List.getD [[iv 1],[iv 0]] j (TI.za ti3),AV.sl 1 2 fun (j:Nat)=>List.getD [[iv 0],[iv 1]] j (TI.za ti3)],[iv 6,AV.sl 1 2 fun (j:Nat)=>List.getD [[iv (-1)],[iv 1]] j (TI.za ti3),AV.sl 1 2 fun (j:Nat)=>List.getD [[iv 0],[iv 1]] j (TI.za ti3)],[iv 3,AV.sl 1 2 fun (j:Nat)=>List.getD [[iv 0],[iv (-1)]] j (TI.za ti3),AV.sl 1 1 fun (j:Nat)=>List.getD [[iv 0]] j (TI.za ti3)]] i6 (TI.za ti32)=cFnd (fnd exR i6))
 (o4:small exR)
 (o5:∀ (i12:Nat),i12 < (mach exR 2).changes.length->cSpan (chg (mach exR 2) i12) = [iv ((mach exR 2).changes.getD i12 default).lo,iv ((mach exR 2).changes.getD i12 default).hi])
 (o6:∀ (i14:Nat),i14 < exR.found.length->i14 ≠ 1->cFnd (fnd exR i14)=cFnd (fnd exQ i14))
 (o7:Fnd.minute (fnd exR 1)=Fnd.minute (fnd exQ 1))
 (o8:∀ (i17:Nat),i17 < (fnd exQ 1).new.length->Decidable.rec (fun (h:¬i17=0)=>[iv ((fnd exR 1).new.getD i17 0)]) (fun (h:i17=0)=>[iv 0] ++ []) (instDecidableEqNat i17 0) = [iv ((fnd exQ 1).new.getD i17 0)])
 (o9:∀ (i19:Nat),i19 < (fnd exQ 1).frm.length -> [iv ((fnd exR 1).frm.getD i19 0)] = [iv ((fnd exQ 1).frm.getD i19 0)])
 (o10:Run.plates exR=Run.plates exQ)
 (o11:Run.last exR=Run.last exQ)
 (o12:∀ (i21:Nat),i21 < exQ.machines.length->cMach (mach exR i21)=cMach (mach exQ i21)) :
  Triple Try.prog 77 (s77):=by
 refine triple_of Try.func77 rfl Try.call77 T0_ok _ rfl rfl rfl rfl (Nat.le_of_ble_eq_true (by kernel_rfl)) (fun _ _ _ _ h=>h) ?_
 intro _ C hC _ hE
 obtain ⟨P,w0,E0,av,hA⟩:=C
 subst hC
 refine swp_seq ?_
 refine sR (kt:=[0,1]) (kh:=[0,8]) (q:=True/\True/\True) (st':=ASt.mk [(0,.ptr 0 []),(1,.ptr 8 [])] [(0,.cells 25 [iv 0,iv 0,nilv,nilv]),(8,.cells 25 [iv 0,iv 0,nilv,nilv])] 16) (by kernel_rfl) ⟨tv,tv,tv⟩ ?_
 refine swp_seq ?_
 refine swp_region T0_ok mixed (cs:=[(0,CallSpec.eq (s29 2 5) [true,true]),(1,CallSpec.eq (s29 2 8) [true,true]),(4,CallSpec.eq (s29 4 9) [true,true]),(5,CallSpec.eq (s29 0 9) [true,true])]) (kt:=[0,1]) (kh:=[0,8,80,160]) (q:=((iv 2=iv 2/\iv 5=iv 5/\True)/\Triple Try.prog 29 (s29 2 5)/\True/\True /\ ∀ (i0:Env),True)/\((iv 2=iv 2/\iv 8=iv 8/\True)/\Triple Try.prog 29 (s29 2 8)/\True/\True /\ ∀ (i1:Env),True)/\True/\True/\((iv 4=iv 4/\iv 9=iv 9/\True)/\Triple Try.prog 29 (s29 4 9)/\True/\True /\ ∀ (i2:Env),True)/\((iv 0=iv 0/\iv 9=iv 9/\True)/\Triple Try.prog 29 (s29 0 9)/\True/\True /\ ∀ (i3:Env),True)/\True/\True/\True/\True/\True/\True/\True/\True/\True/\True/\True/\True/\True/\True/\True/\True) (st':=ASt.mk [(0,.ptr 0 []),(1,.ptr 8 [])] [(0,.cells 25 [iv 2,iv 10,.vec 80,.vec 160]),(8,.cells 25 [iv 0,iv 0,nilv,nilv]),(80,.vec 42 2 2 fun (j:Nat)=>List.getD [[.sl 2 2 fun (j:Nat)=>List.getD [[iv 2,iv 5],[iv 2,iv 8]] j (TI.za ti37),iv 3],[.sl 2 2 fun (j:Nat)=>List.getD [[iv 4,iv 9],[iv 0,iv 9]] j (TI.za ti37),iv 5]] j (TI.za ti42)),(160,.vec 32 3 3 fun (j:Nat)=>List.getD [[iv 4,.sl 1 2 fun (j:Nat)=>List.getD [[iv 1],[iv 0]] j (TI.za ti3),.sl 1 2 fun (j:Nat)=>List.getD [[iv 0],[iv 1]] j (TI.za ti3)],[iv 6,.sl 1 2 fun (j:Nat)=>List.getD [[iv (-1)],[iv 1]] j (TI.za ti3),.sl 1 2 fun (j:Nat)=>List.getD [[iv 0],[iv 1]] j (TI.za ti3)],[iv 3,.sl 1 2 fun (j:Nat)=>List.getD [[iv 0],[iv (-1)]] j (TI.za ti3),.sl 1 1 fun (j:Nat)=>List.getD [[iv 0]] j (TI.za ti3)]] j (TI.za ti32))] 184) (by kernel_rfl) ⟨⟨⟨rfl,rfl,tv⟩,(t29 (2) (5)),tv,tv,(fun i0=>tv)⟩,⟨⟨rfl,rfl,tv⟩,(t29 (2) (8)),tv,tv,(fun i1=>tv)⟩,tv,tv,⟨⟨rfl,rfl,tv⟩,(t29 (4) (9)),tv,tv,(fun i2=>tv)⟩,⟨⟨rfl,rfl,tv⟩,(t29 (0) (9)),tv,tv,(fun i3=>tv)⟩,tv,tv,tv,tv,tv,tv,tv,tv,tv,tv,tv,tv,tv,tv,tv,tv⟩ ?_
 refine swp_seq ?_
 refine swp_ent (ent_q (st2:=ASt.mk [(0,AV.ptr 0 []),(1,AV.ptr 8 [])] [(0,OB.cells 25 (cRun exR)),(8,OB.cells 25 [iv 0,iv 0,nilv,nilv])] 184) hE [80,160] [(0,.same 0),(8,.same 8)] [] [8] (((some (Src.same 0)=some (Src.same 0)/\nilP = [])/\(some (Src.same 8)=some (Src.same 8)/\nilP = [])/\True)/\((25=25/\((iv 2=iv exR.plates/\nilN = [])/\(iv 10=iv exR.last/\nilN = [])/\(2=2/\2=exR.machines.length /\ ∀ (i4:Nat),i4 < exR.machines.length->List.getD [[AV.sl 2 2 fun (j:Nat)=>List.getD [[iv 2,iv 5],[iv 2,iv 8]] j (TI.za ti37),iv 3],[AV.sl 2 2 fun (j:Nat)=>List.getD [[iv 4,iv 9],[iv 0,iv 9]] j (TI.za ti37),iv 5]] i4 (TI.za ti42)=cMach (mach exR i4))/\(3=3/\3=exR.found.length /\ ∀ (i6:Nat),i6 < exR.found.length->List.getD [[iv 4,AV.sl 1 2 fun (j:Nat)=>List.getD [[iv 1],[iv 0]] j (TI.za ti3),AV.sl 1 2 fun (j:Nat)=>List.getD [[iv 0],[iv 1]] j (TI.za ti3)],[iv 6,AV.sl 1 2 fun (j:Nat)=>List.getD [[iv (-1)],[iv 1]] j (TI.za ti3),AV.sl 1 2 fun (j:Nat)=>List.getD [[iv 0],[iv 1]] j (TI.za ti3)],[iv 3,AV.sl 1 2 fun (j:Nat)=>List.getD [[iv 0],[iv (-1)]] j (TI.za ti3),AV.sl 1 1 fun (j:Nat)=>List.getD [[iv 0]] j (TI.za ti3)]] i6 (TI.za ti32)=cFnd (fnd exR i6))/\True)/\true=true)/\(OB.cells 25 [iv 0,iv 0,nilv,nilv]=OB.cells 25 [iv 0,iv 0,nilv,nilv]/\true=true)/\True)/\T2) (by kernel_rfl) (by kernel_rfl) ⟨⟨⟨rfl,rfl⟩,⟨rfl,rfl⟩,tv⟩,⟨⟨rfl,⟨⟨(congrArg iv (o0)),rfl⟩,⟨(congrArg iv (o1)),rfl⟩,⟨rfl,(by decide),(fun i4=>(fun h5=>(o2 i4 h5)))⟩,⟨rfl,(by decide),(fun i6=>(fun h7=>(o3 i6 h7)))⟩,tv⟩,rfl⟩,⟨rfl,rfl⟩,tv⟩,rfl,rfl⟩) ?_
 refine swp_region T0_ok mixed (cs:=[(1,CallSpec.eq (c77 192) [true])]) (kt:=[0,1]) (kh:=[0,8,192,193,195,194]) (q:=True/\((AV.agg (cRun exR)=AV.agg (cRun exR)/\True)/\Triple Try.prog 20 (c77 192)/\small exR/\True /\ ∀ (i8:Env),True)/\True/\True) (st':=ASt.mk [(0,.ptr 0 []),(1,.ptr 8 [])] [(0,.cells 25 (cRun exR)),(8,.cells 25 [iv exR.plates,iv exR.last,.vec 192,.vec 193]),(192,.vecx 42 2 exR.machines.length (fun (k:Nat)=>cMach (mach exR k)) 2 [.vec 194,iv (mach exR 2).rate]),(193,.vecx 32 3 exR.found.length (fun (k:Nat)=>cFnd (fnd exR k)) 1 [iv (fnd exR 1).minute,.vec 195,.sl 1 (fnd exR 1).frm.length fun (i:Nat)=>[iv ((fnd exR 1).frm.getD i 0)]]),(195,.vec 3 1 (nwLen exR 1 exR.found.length) fun (p:Nat)=>[iv ((fnd exR 1).new.getD p 0)]),(194,.vec 37 2 (chLen exR 2 exR.machines.length) fun (p:Nat)=>cSpan (chg (mach exR 2) p))] 208) (by kernel_rfl) ⟨tv,⟨⟨rfl,tv⟩,(t20o (exR) (2) (1) (192)),(o4),tv,(fun i8=>tv)⟩,tv,tv⟩ ?_
 refine swp_seq ?_
 refine sR (kt:=[0,1]) (kh:=[0,8,192,193,194,195]) (q:=True/\True/\(Int.ofNat 0<=Int.ofNat 1/\1 < (↑(exR.found.length):Int))/\True/\(1=1/\1 < exR.found.length/\True)/\(Int.ofNat 0<=Int.ofNat 0/\0 < (↑(nwLen exR 1 exR.found.length):Int))/\(0 < nwLen exR 1 exR.found.length/\True)/\True) (st':=ASt.mk [(0,.ptr 0 []),(1,.ptr 8 [])] [(0,.cells 25 (cRun exR)),(8,.cells 25 [iv exR.plates,iv exR.last,.vec 192,.vec 193]),(192,.vecx 42 2 exR.machines.length (fun (k:Nat)=>cMach (mach exR k)) 2 [.vec 194,iv (mach exR 2).rate]),(193,.vecx 32 3 exR.found.length (fun (k:Nat)=>cFnd (fnd exR k)) 1 [iv (fnd exR 1).minute,.vec 195,.sl 1 (fnd exR 1).frm.length fun (i:Nat)=>[iv ((fnd exR 1).frm.getD i 0)]]),(194,.vec 37 2 (chLen exR 2 exR.machines.length) fun (p:Nat)=>cSpan (chg (mach exR 2) p)),(195,.vec 3 1 (nwLen exR 1 exR.found.length) fun (j:Nat)=>Decidable.rec (fun (h:¬j=0)=>[iv ((fnd exR 1).new.getD j 0)]) (fun (h:j=0)=>[iv 0] ++ []) (instDecidableEqNat j 0))] 264) (by kernel_rfl) ⟨tv,tv,⟨(by decide),(by decide)⟩,tv,⟨rfl,(by decide),tv⟩,⟨(by decide),(by decide)⟩,⟨(by decide),tv⟩,tv⟩ ?_
 refine swp_seq ?_
 refine swp_ent (ent_q (st2:=ASt.mk [(0,AV.ptr 0 []),(1,AV.ptr 8 [])] [(192,OB.vec 42 2 2 fun (k:Nat)=>cMach (mach exR k)),(193,OB.vec 32 3 3 fun (k:Nat)=>cFnd (fnd exQ k)),(0,OB.cells 25 (cRun exR)),(8,OB.cells 25 [iv exR.plates,iv exR.last,AV.vec 192,AV.vec 193])] 264) hE [194,195] [(0,.same 0),(8,.same 8),(192,.same 192),(193,.same 193)] [] [0] (((some (Src.same 0)=some (Src.same 0)/\nilP = [])/\(some (Src.same 8)=some (Src.same 8)/\nilP = [])/\True)/\((42=42/\2=2/\exR.machines.length=2/\(∀ (i9:Nat),i9 < exR.machines.length->i9 ≠ 2->cMach (mach exR i9)=cMach (mach exR i9))/\((2=2/\chLen exR 2 exR.machines.length=(mach exR 2).changes.length /\ ∀ (i12:Nat),i12 < (mach exR 2).changes.length->cSpan (chg (mach exR 2) i12) = [iv ((mach exR 2).changes.getD i12 default).lo,iv ((mach exR 2).changes.getD i12 default).hi])/\(iv (mach exR 2).rate=iv (mach exR 2).rate/\nilN = [])/\True)/\T2)/\(32=32/\3=3/\exR.found.length=3/\(∀ (i14:Nat),i14 < exR.found.length->i14 ≠ 1->cFnd (fnd exR i14)=cFnd (fnd exQ i14))/\((iv (fnd exR 1).minute=iv (fnd exQ 1).minute/\nilN = [])/\(1=1/\nwLen exR 1 exR.found.length=(fnd exQ 1).new.length /\ ∀ (i17:Nat),i17 < (fnd exQ 1).new.length->Decidable.rec (fun (h:¬i17=0)=>[iv ((fnd exR 1).new.getD i17 0)]) (fun (h:i17=0)=>[iv 0] ++ []) (instDecidableEqNat i17 0) = [iv ((fnd exQ 1).new.getD i17 0)])/\(1=1/\(fnd exR 1).frm.length=(fnd exQ 1).frm.length /\ ∀ (i19:Nat),i19 < (fnd exQ 1).frm.length -> [iv ((fnd exR 1).frm.getD i19 0)] = [iv ((fnd exQ 1).frm.getD i19 0)])/\True)/\T2)/\(OB.cells 25 (cRun exR)=OB.cells 25 (cRun exR)/\true=true)/\(25=25/\((iv exR.plates=iv exR.plates/\nilN = [])/\(iv exR.last=iv exR.last/\nilN = [])/\some (Src.same 192)=some (Src.same 192)/\some (Src.same 193)=some (Src.same 193)/\True)/\true=true)/\True)/\T2) (by kernel_rfl) (by kernel_rfl) ⟨⟨⟨rfl,rfl⟩,⟨rfl,rfl⟩,tv⟩,⟨⟨rfl,rfl,(by decide),(fun i9=>(fun h10=>(fun h11=>rfl))),⟨⟨rfl,(by decide),(fun i12=>(fun h13=>(o5 i12 h13)))⟩,⟨rfl,rfl⟩,tv⟩,rfl,rfl⟩,⟨rfl,rfl,(by decide),(fun i14=>(fun h15=>(fun h16=>(o6 i14 h15 h16)))),⟨⟨(congrArg iv (o7)),rfl⟩,⟨rfl,(by decide),(fun i17=>(fun h18=>(o8 i17 h18)))⟩,⟨rfl,(by decide),(fun i19=>(fun h20=>(o9 i19 h20)))⟩,tv⟩,rfl,rfl⟩,⟨rfl,rfl⟩,⟨rfl,⟨⟨rfl,rfl⟩,⟨rfl,rfl⟩,rfl,rfl,tv⟩,rfl⟩,tv⟩,rfl,rfl⟩) ?_
 refine swp_ent (ent_q (st2:=ASt.mk [(0,AV.ptr 0 []),(1,AV.ptr 8 [])] [(8,OB.cells 25 (cRun exQ)),(0,OB.cells 25 (cRun exR))] 264) hE [192,193] [(0,.same 0),(8,.same 8)] [] [0] (((some (Src.same 0)=some (Src.same 0)/\nilP = [])/\(some (Src.same 8)=some (Src.same 8)/\nilP = [])/\True)/\((25=25/\((iv exR.plates=iv exQ.plates/\nilN = [])/\(iv exR.last=iv exQ.last/\nilN = [])/\(2=2/\2=exQ.machines.length /\ ∀ (i21:Nat),i21 < exQ.machines.length->cMach (mach exR i21)=cMach (mach exQ i21))/\(3=3/\3=exQ.found.length /\ ∀ (i23:Nat),i23 < exQ.found.length->cFnd (fnd exQ i23)=cFnd (fnd exQ i23))/\True)/\true=true)/\(OB.cells 25 (cRun exR)=OB.cells 25 (cRun exR)/\true=true)/\True)/\T2) (by kernel_rfl) (by kernel_rfl) ⟨⟨⟨rfl,rfl⟩,⟨rfl,rfl⟩,tv⟩,⟨⟨rfl,⟨⟨(congrArg iv (o10)),rfl⟩,⟨(congrArg iv (o11)),rfl⟩,⟨rfl,(by decide),(fun i21=>(fun h22=>(o12 i21 h22)))⟩,⟨rfl,(by decide),(fun i23=>(fun h24=>rfl))⟩,tv⟩,rfl⟩,⟨rfl,rfl⟩,tv⟩,rfl,rfl⟩) ?_
 refine sR (kt:=[0,1]) (kh:=[0,8]) (q:=True/\True/\True/\True/\True) (st':=ASt.mk [(0,.ptr 0 []),(1,.ptr 8 [])] [(0,.cells 25 (cRun exR)),(8,.cells 25 (cRun exQ))] 296) (by kernel_rfl) ⟨tv,tv,tv,tv,tv⟩ ?_
 refine swp_ret ?_
 exact ret_q [] ((True/\True/\True)/\(((iv exR.plates=iv exR.plates/\nilN = [])/\(iv exR.last=iv exR.last/\nilN = [])/\(2=2/\exR.machines.length=exR.machines.length /\ ∀ (i25:Nat),i25 < exR.machines.length->cMach (mach exR i25)=cMach (mach exR i25))/\(3=3/\exR.found.length=exR.found.length /\ ∀ (i27:Nat),i27 < exR.found.length->cFnd (fnd exR i27)=cFnd (fnd exR i27))/\True)/\((iv exQ.plates=iv exQ.plates/\nilN = [])/\(iv exQ.last=iv exQ.last/\nilN = [])/\(2=2/\exQ.machines.length=exQ.machines.length /\ ∀ (i29:Nat),i29 < exQ.machines.length->cMach (mach exQ i29)=cMach (mach exQ i29))/\(3=3/\exQ.found.length=exQ.found.length /\ ∀ (i31:Nat),i31 < exQ.found.length->cFnd (fnd exQ i31)=cFnd (fnd exQ i31))/\True)/\True)/\T3) (by kernel_rfl) ⟨⟨tv,tv,tv⟩,⟨⟨⟨rfl,rfl⟩,⟨rfl,rfl⟩,⟨rfl,rfl,(fun i25=>(fun h26=>rfl))⟩,⟨rfl,rfl,(fun i27=>(fun h28=>rfl))⟩,tv⟩,⟨⟨rfl,rfl⟩,⟨rfl,rfl⟩,⟨rfl,rfl,(fun i29=>(fun h30=>rfl))⟩,⟨rfl,rfl,(fun i31=>(fun h32=>rfl))⟩,tv⟩,tv⟩,rfl,rfl,rfl⟩
theorem sl_ext {sz n:Nat} {f g:Nat->List AV} (h:∀ j,f j=g j):AV.sl sz n f = .sl sz n g:=by rw [funext h]
theorem cell3 {c a b a' b':AV} (h:a=a') (k:b=b'):[c,a,b] = [c,a',b']:=by rw [h,k]
theorem short_list {α β:Type} {l:List α} {d:α} {f:α->List β} {n:Nat} (h:l.all (fun x=>decide ((f x).length<=n))=true) (hd:(f d).length<=n) (i:Nat):(f (l.getD i d)).length<=n:=by
 by_cases hi:i < l.length
 ·have:=List.all_eq_true.1 h _ (getD_mem l d hi)
  simpa using this
 ·rw [getD_ge _ _ (by omega)]; exact hd
theorem small_exR:small exR:=by
 exact ⟨by decide,by decide,fun i=>short_list (f:=fun m:Mach=>m.changes) (by decide) (by decide) i,fun i=>⟨short_list (f:=fun m:Fnd=>m.new) (by decide) (by decide) i,short_list (f:=fun m:Fnd=>m.frm) (by decide) (by decide) i⟩⟩
theorem small_exQ:small exQ:=by
 exact ⟨by decide,by decide,fun i=>short_list (f:=fun m:Mach=>m.changes) (by decide) (by decide) i,fun i=>⟨short_list (f:=fun m:Fnd=>m.new) (by decide) (by decide) i,short_list (f:=fun m:Fnd=>m.frm) (by decide) (by decide) i⟩⟩
set_option maxRecDepth 4000
theorem x_when:whenS exQ 1 0=⟨7,9⟩:=by decide +kernel
theorem x_old:oldS exR 0=⟨32,57⟩:=by decide +kernel
theorem x_mix:mixesS exR=⟨3,57⟩:=by decide +kernel
theorem x_read:readS exR 2 1=3:=by decide +kernel
theorem x_few:fewP exQ=2:=by decide +kernel
theorem x_ok:openE exQ (whenIs exQ 1 0)=0/\openE exQ (isFound exQ 1)=0/\openE exQ true=0/\openE exR (isPlate exR 0)=0/\openE exR true=0/\openE exR (readIs exR 2 1)=0:=by decide +kernel
theorem x_wf:wf (waysOf exQ) 1 = [1]:=by decide +kernel
theorem x_where:whereS exQ 1 = [1]:=by
 rw [whereS,if_pos x_ok.2.1,whereP]
 show compactI (sortI (wf (waysOf exQ) 1)) = [1]
 rw [x_wf,sortI,List.mergeSort_singleton]
 decide +kernel
theorem t77:Triple Try.prog 77 s77:=by
 apply w77
 case o2 =>
  intro i hi
  have:i=0 ∨ i=1:=by simp [exR] at hi; omega
  rcases this with rfl | rfl
  ·exact congrArg (· :: [iv 3]) (sl_ext fun j=>by rcases j with _ | _ | j <;> rfl)
  ·exact congrArg (· :: [iv 5]) (sl_ext fun j=>by rcases j with _ | _ | j <;> rfl)
 case o3 =>
  intro i hi
  have:i=0 ∨ i=1 ∨ i=2:=by simp [exR] at hi; omega
  rcases this with rfl | rfl | rfl
  ·exact cell3 (sl_ext fun j=>by rcases j with _ | _ | j <;> rfl) (sl_ext fun j=>by rcases j with _ | _ | j <;> rfl)
  ·exact cell3 (sl_ext fun j=>by rcases j with _ | _ | j <;> rfl) (sl_ext fun j=>by rcases j with _ | _ | j <;> rfl)
  ·exact cell3 (sl_ext fun j=>by rcases j with _ | _ | j <;> rfl) (sl_ext fun j=>by rcases j with _ | j <;> rfl)
 case o4=>exact small_exR
 case o6 =>
  intro i hi h1
  have:i=0 ∨ i=2:=by simp [exR] at hi; omega
  rcases this with rfl | rfl <;> rfl
 case o8 =>
  intro i hi
  have:i=0 ∨ i=1:=by simp [fnd,exQ] at hi; omega
  rcases this with rfl | rfl <;> rfl
 all_goals (first | ((repeat intro _) <;> (try simp only [v0,v1,v2,v3,v4,v5,v6,v7,v8,v9,inI,fits,Go.Sh.small] at *) <;> first | (exact rfl) | omega | exact vz | (simp_all; done) | (simp_all; omega)) | skip)
theorem t77o (r q:Run):Triple Try.prog 77 (s77o r q):=⟨t77.1,fun h=>by obtain ⟨rfl,rfl⟩:=h; exact t77.2 trivial⟩
abbrev q19_1 (r:Run) (q:Run) (C:Prop):Prop:=r=exR/\q=exQ->C
abbrev q19_2 (r:Run) (q:Run) (C:Prop):Prop:=q19_1 r q ((bif bif bif bif bif bif decide (openE q (whenIs q 1 0)=0) then decide (openE q (isFound q 1)=0) else false then decide (openE q true=0) else false then decide (openE r (isPlate r 0)=0) else false then decide (openE r true=0) else false then decide (openE r (readIs r 2 1)=0) else false then decide ((whenS q 1 0).lo=7) && (decide ((whenS q 1 0).hi=9) && true) else false)=true->C)
theorem w19 (r:Run) (q:Run)
 (o0:q19_1 r q (fits q))
 (o1:q19_1 r q (fits q))
 (o2:q19_1 r q (fits q))
 (o3:q19_1 r q (fits r))
 (o4:q19_1 r q (fits r))
 (o5:q19_1 r q (fits r))
 (o6:q19_2 r q (∀ (i47:Nat),i47 < List.length [1]->List.getD [[iv 1]] i47 (TI.za ti3) = [iv (List.getD [1] i47 0)]))
 (o7:q19_2 r q ((whereS q 1).length<=1125899906842624))
 (o8:q19_1 r q ((bif bif bif bif bif bif bif bif bif bif bif decide (openE q (whenIs q 1 0)=0) then decide (openE q (isFound q 1)=0) else false then decide (openE q true=0) else false then decide (openE r (isPlate r 0)=0) else false then decide (openE r true=0) else false then decide (openE r (readIs r 2 1)=0) else false then decide ((whenS q 1 0).lo=7) && (decide ((whenS q 1 0).hi=9) && true) else false then sameInts (whereS q 1) [1] else false then decide (fewP q=2) else false then decide ((oldS r 0).lo=32) && (decide ((oldS r 0).hi=57) && true) else false then decide ((mixesS r).lo=3) && (decide ((mixesS r).hi=57) && true) else false then decide (readS r 2 1=3) else false)=true)) :
  Triple Try.prog 19 (sw19 r q):=by
 refine triple_of Try.func19 rfl Try.call19 T0_ok _ rfl rfl rfl rfl (Nat.le_of_ble_eq_true (by kernel_rfl)) (fun _ _ _ _ h=>h) ?_
 intro hp C hC _ hE
 obtain ⟨P,w0,E0,av,hA⟩:=C
 subst hC
 refine swp_seq ?_
 refine sR (kt:=[]) (kh:=[]) (q:=True/\True) (st':=ASt.mk [] [] 8) (by kernel_rfl) ⟨tv,tv⟩ ?_
 refine swp_seq ?_
 refine swp_region T0_ok mixed (cs:=[(0,CallSpec.eq (c19a r q) [])]) (kt:=[1,2]) (kh:=[40,48]) (q:=(True/\Triple Try.prog 77 (c19a r q)/\(r=exR/\q=exQ)/\True /\ ∀ (i0:Env),True)/\True/\True/\True/\True/\True/\True/\True/\True) (st':=ASt.mk [(1,.ptr 40 []),(2,.ptr 48 [])] [(40,.cells 25 (cRun r)),(48,.cells 25 (cRun q))] 72) (by kernel_rfl) ⟨⟨tv,(t77o (r) (q)),⟨hp.1,hp.2⟩,tv,(fun i0=>tv)⟩,tv,tv,tv,tv,tv,tv,tv,tv⟩ ?_
 refine swp_seq ?_
 refine swp_region T0_ok mixed (cs:=[(1,CallSpec.eq (s23 q 1 0) [true,true,true])]) (kt:=[1,2,3,4]) (kh:=[40,48,112]) (q:=True/\((AV.agg (cRun q)=AV.agg (cRun q)/\iv 1=iv 1/\iv 0=iv 0/\True)/\Triple Try.prog 23 (s23 q 1 0)/\fits q/\True /\ ∀ (i1:Env),True)/\True/\True/\True/\True/\True/\True/\True) (st':=ASt.mk [(1,.ptr 40 []),(2,.ptr 48 []),(3,.ptr 112 []),(4,iv (openE q (whenIs q 1 0)))] [(40,.cells 25 (cRun r)),(48,.cells 25 (cRun q)),(112,.cells 37 (cSpan (whenS q 1 0)))] 136) (by kernel_rfl) ⟨tv,⟨⟨rfl,rfl,rfl,tv⟩,(t23 (q) (1) (0)),(o0 hp),tv,(fun i1=>tv)⟩,tv,tv,tv,tv,tv,tv,tv⟩ ?_
 refine swp_seq ?_
 refine swp_region T0_ok mixed (cs:=[(1,CallSpec.eq (s35 q 1) [true,true])]) (kt:=[1,2,3,4,5,6]) (kh:=[40,48,112]) (q:=True/\((AV.agg (cRun q)=AV.agg (cRun q)/\iv 1=iv 1/\True)/\Triple Try.prog 35 (s35 q 1)/\fits q/\True /\ ∀ (i2:Env),True)/\True/\True/\True/\True/\True/\True) (st':=ASt.mk [(1,.ptr 40 []),(2,.ptr 48 []),(3,.ptr 112 []),(4,iv (openE q (whenIs q 1 0))),(5,aInts (whereS q 1)),(6,iv (openE q (isFound q 1)))] [(40,.cells 25 (cRun r)),(48,.cells 25 (cRun q)),(112,.cells 37 (cSpan (whenS q 1 0)))] 192) (by kernel_rfl) ⟨tv,⟨⟨rfl,rfl,tv⟩,(t35 (q) (1)),(o1 hp),tv,(fun i2=>tv)⟩,tv,tv,tv,tv,tv,tv⟩ ?_
 refine swp_seq ?_
 refine swp_region T0_ok mixed (cs:=[(1,CallSpec.eq (s22 q) [true])]) (kt:=[1,3,4,5,6,7,8]) (kh:=[40,112]) (q:=True/\((AV.agg (cRun q)=AV.agg (cRun q)/\True)/\Triple Try.prog 22 (s22 q)/\fits q/\True /\ ∀ (i3:Env),True)/\True/\True/\True/\True/\True/\True) (st':=ASt.mk [(1,.ptr 40 []),(3,.ptr 112 []),(4,iv (openE q (whenIs q 1 0))),(5,aInts (whereS q 1)),(6,iv (openE q (isFound q 1))),(7,iv (fewP q)),(8,iv (openE q true))] [(40,.cells 25 (cRun r)),(112,.cells 37 (cSpan (whenS q 1 0)))] 248) (by kernel_rfl) ⟨tv,⟨⟨rfl,tv⟩,(t22 (q)),(o2 hp),tv,(fun i3=>tv)⟩,tv,tv,tv,tv,tv,tv⟩ ?_
 refine swp_seq ?_
 refine swp_region T0_ok mixed (cs:=[(1,CallSpec.eq (s26 r 0) [true,true])]) (kt:=[1,3,4,5,6,7,8,9,10]) (kh:=[40,112,288]) (q:=True/\((AV.agg (cRun r)=AV.agg (cRun r)/\iv 0=iv 0/\True)/\Triple Try.prog 26 (s26 r 0)/\fits r/\True /\ ∀ (i4:Env),True)/\True/\True/\True/\True/\True/\True/\True) (st':=ASt.mk [(1,.ptr 40 []),(3,.ptr 112 []),(4,iv (openE q (whenIs q 1 0))),(5,aInts (whereS q 1)),(6,iv (openE q (isFound q 1))),(7,iv (fewP q)),(8,iv (openE q true)),(9,.ptr 288 []),(10,iv (openE r (isPlate r 0)))] [(40,.cells 25 (cRun r)),(112,.cells 37 (cSpan (whenS q 1 0))),(288,.cells 37 (cSpan (oldS r 0)))] 312) (by kernel_rfl) ⟨tv,⟨⟨rfl,rfl,tv⟩,(t26 (r) (0)),(o3 hp),tv,(fun i4=>tv)⟩,tv,tv,tv,tv,tv,tv,tv⟩ ?_
 refine swp_seq ?_
 refine swp_region T0_ok mixed (cs:=[(1,CallSpec.eq (s27 r) [true])]) (kt:=[1,3,4,5,6,7,8,9,10,11,12]) (kh:=[40,112,288,352]) (q:=True/\((AV.agg (cRun r)=AV.agg (cRun r)/\True)/\Triple Try.prog 27 (s27 r)/\fits r/\True /\ ∀ (i5:Env),True)/\True/\True/\True/\True/\True/\True/\True) (st':=ASt.mk [(1,.ptr 40 []),(3,.ptr 112 []),(4,iv (openE q (whenIs q 1 0))),(5,aInts (whereS q 1)),(6,iv (openE q (isFound q 1))),(7,iv (fewP q)),(8,iv (openE q true)),(9,.ptr 288 []),(10,iv (openE r (isPlate r 0))),(11,.ptr 352 []),(12,iv (openE r true))] [(40,.cells 25 (cRun r)),(112,.cells 37 (cSpan (whenS q 1 0))),(288,.cells 37 (cSpan (oldS r 0))),(352,.cells 37 (cSpan (mixesS r)))] 376) (by kernel_rfl) ⟨tv,⟨⟨rfl,tv⟩,(t27 (r)),(o4 hp),tv,(fun i5=>tv)⟩,tv,tv,tv,tv,tv,tv,tv⟩ ?_
 refine swp_seq ?_
 refine swp_region T0_ok mixed (cs:=[(1,CallSpec.eq (s31 r 2 1) [true,true,true])]) (kt:=[3,4,5,6,7,8,9,10,11,12,13,14]) (kh:=[112,288,352]) (q:=True/\((AV.agg (cRun r)=AV.agg (cRun r)/\iv 2=iv 2/\iv 1=iv 1/\True)/\Triple Try.prog 31 (s31 r 2 1)/\fits r/\True /\ ∀ (i6:Env),True)/\True/\True/\True/\True/\True/\True) (st':=ASt.mk [(3,.ptr 112 []),(4,iv (openE q (whenIs q 1 0))),(5,aInts (whereS q 1)),(6,iv (openE q (isFound q 1))),(7,iv (fewP q)),(8,iv (openE q true)),(9,.ptr 288 []),(10,iv (openE r (isPlate r 0))),(11,.ptr 352 []),(12,iv (openE r true)),(13,iv (readS r 2 1)),(14,iv (openE r (readIs r 2 1)))] [(112,.cells 37 (cSpan (whenS q 1 0))),(288,.cells 37 (cSpan (oldS r 0))),(352,.cells 37 (cSpan (mixesS r)))] 432) (by kernel_rfl) ⟨tv,⟨⟨rfl,rfl,rfl,tv⟩,(t31 (r) (2) (1)),(o5 hp),tv,(fun i6=>tv)⟩,tv,tv,tv,tv,tv,tv⟩ ?_
 refine swp_seq ?_
 refine swp_region T0_ok mixed (cs:=[(24,CallSpec.eq (s29 7 9) [true,true]),(30,CallSpec.eq (c19 r q) [false,false]),(38,CallSpec.eq (s29 32 57) [true,true]),(43,CallSpec.eq (s29 3 57) [true,true])]) (kt:=[0]) (kh:=[]) (q:=True/\True/\True/\(decide (openE q (whenIs q 1 0)=0)=true->(True/\True)/\True)/\(decide (openE q (whenIs q 1 0)=0)=true->((decide (openE q (whenIs q 1 0)=0)=true->decide (openE q (whenIs q 1 0)=0)=true)/\True/\True)/\True)/\((decide (openE q (whenIs q 1 0)=0)=true->decide (openE q (whenIs q 1 0)=0)=true)/\(decide (openE q (whenIs q 1 0)=0)=false->True))/\True/\((bif decide (openE q (whenIs q 1 0)=0) then decide (openE q (isFound q 1)=0) else false)=true->(True/\True)/\True)/\((bif decide (openE q (whenIs q 1 0)=0) then decide (openE q (isFound q 1)=0) else false)=true->(((bif decide (openE q (whenIs q 1 0)=0) then decide (openE q (isFound q 1)=0) else false)=true->(bif decide (openE q (whenIs q 1 0)=0) then decide (openE q (isFound q 1)=0) else false)=true)/\True/\True)/\True)/\(((bif decide (openE q (whenIs q 1 0)=0) then decide (openE q (isFound q 1)=0) else false)=true->(bif decide (openE q (whenIs q 1 0)=0) then decide (openE q (isFound q 1)=0) else false)=true)/\((bif decide (openE q (whenIs q 1 0)=0) then decide (openE q (isFound q 1)=0) else false)=false->True))/\True/\((bif bif decide (openE q (whenIs q 1 0)=0) then decide (openE q (isFound q 1)=0) else false then decide (openE q true=0) else false)=true->(True/\True)/\True)/\((bif bif decide (openE q (whenIs q 1 0)=0) then decide (openE q (isFound q 1)=0) else false then decide (openE q true=0) else false)=true->(((bif bif decide (openE q (whenIs q 1 0)=0) then decide (openE q (isFound q 1)=0) else false then decide (openE q true=0) else false)=true->(bif bif decide (openE q (whenIs q 1 0)=0) then decide (openE q (isFound q 1)=0) else false then decide (openE q true=0) else false)=true)/\True/\True)/\True)/\(((bif bif decide (openE q (whenIs q 1 0)=0) then decide (openE q (isFound q 1)=0) else false then decide (openE q true=0) else false)=true->(bif bif decide (openE q (whenIs q 1 0)=0) then decide (openE q (isFound q 1)=0) else false then decide (openE q true=0) else false)=true)/\((bif bif decide (openE q (whenIs q 1 0)=0) then decide (openE q (isFound q 1)=0) else false then decide (openE q true=0) else false)=false->True))/\True/\((bif bif bif decide (openE q (whenIs q 1 0)=0) then decide (openE q (isFound q 1)=0) else false then decide (openE q true=0) else false then decide (openE r (isPlate r 0)=0) else false)=true->(True/\True)/\True)/\((bif bif bif decide (openE q (whenIs q 1 0)=0) then decide (openE q (isFound q 1)=0) else false then decide (openE q true=0) else false then decide (openE r (isPlate r 0)=0) else false)=true->(((bif bif bif decide (openE q (whenIs q 1 0)=0) then decide (openE q (isFound q 1)=0) else false then decide (openE q true=0) else false then decide (openE r (isPlate r 0)=0) else false)=true->(bif bif bif decide (openE q (whenIs q 1 0)=0) then decide (openE q (isFound q 1)=0) else false then decide (openE q true=0) else false then decide (openE r (isPlate r 0)=0) else false)=true)/\True/\True)/\True)/\(((bif bif bif decide (openE q (whenIs q 1 0)=0) then decide (openE q (isFound q 1)=0) else false then decide (openE q true=0) else false then decide (openE r (isPlate r 0)=0) else false)=true->(bif bif bif decide (openE q (whenIs q 1 0)=0) then decide (openE q (isFound q 1)=0) else false then decide (openE q true=0) else false then decide (openE r (isPlate r 0)=0) else false)=true)/\((bif bif bif decide (openE q (whenIs q 1 0)=0) then decide (openE q (isFound q 1)=0) else false then decide (openE q true=0) else false then decide (openE r (isPlate r 0)=0) else false)=false->True))/\True/\((bif bif bif bif decide (openE q (whenIs q 1 0)=0) then decide (openE q (isFound q 1)=0) else false then decide (openE q true=0) else false then decide (openE r (isPlate r 0)=0) else false then decide (openE r true=0) else false)=true->(True/\True)/\True)/\((bif bif bif bif decide (openE q (whenIs q 1 0)=0) then decide (openE q (isFound q 1)=0) else false then decide (openE q true=0) else false then decide (openE r (isPlate r 0)=0) else false then decide (openE r true=0) else false)=true->(((bif bif bif bif decide (openE q (whenIs q 1 0)=0) then decide (openE q (isFound q 1)=0) else false then decide (openE q true=0) else false then decide (openE r (isPlate r 0)=0) else false then decide (openE r true=0) else false)=true->(bif bif bif bif decide (openE q (whenIs q 1 0)=0) then decide (openE q (isFound q 1)=0) else false then decide (openE q true=0) else false then decide (openE r (isPlate r 0)=0) else false then decide (openE r true=0) else false)=true)/\True/\True)/\True)/\(((bif bif bif bif decide (openE q (whenIs q 1 0)=0) then decide (openE q (isFound q 1)=0) else false then decide (openE q true=0) else false then decide (openE r (isPlate r 0)=0) else false then decide (openE r true=0) else false)=true->(bif bif bif bif decide (openE q (whenIs q 1 0)=0) then decide (openE q (isFound q 1)=0) else false then decide (openE q true=0) else false then decide (openE r (isPlate r 0)=0) else false then decide (openE r true=0) else false)=true)/\((bif bif bif bif decide (openE q (whenIs q 1 0)=0) then decide (openE q (isFound q 1)=0) else false then decide (openE q true=0) else false then decide (openE r (isPlate r 0)=0) else false then decide (openE r true=0) else false)=false->True))/\True/\((bif bif bif bif bif decide (openE q (whenIs q 1 0)=0) then decide (openE q (isFound q 1)=0) else false then decide (openE q true=0) else false then decide (openE r (isPlate r 0)=0) else false then decide (openE r true=0) else false then decide (openE r (readIs r 2 1)=0) else false)=true->(True/\True)/\True)/\((bif bif bif bif bif decide (openE q (whenIs q 1 0)=0) then decide (openE q (isFound q 1)=0) else false then decide (openE q true=0) else false then decide (openE r (isPlate r 0)=0) else false then decide (openE r true=0) else false then decide (openE r (readIs r 2 1)=0) else false)=true->(True/\True/\True/\True)/\(iv 7=iv 7/\iv 9=iv 9/\True)/\Triple Try.prog 29 (s29 7 9)/\True/\True /\ ∀ (i34:Env),True)/\((bif bif bif bif bif decide (openE q (whenIs q 1 0)=0) then decide (openE q (isFound q 1)=0) else false then decide (openE q true=0) else false then decide (openE r (isPlate r 0)=0) else false then decide (openE r true=0) else false then decide (openE r (readIs r 2 1)=0) else false)=true->(((bif bif bif bif bif decide (openE q (whenIs q 1 0)=0) then decide (openE q (isFound q 1)=0) else false then decide (openE q true=0) else false then decide (openE r (isPlate r 0)=0) else false then decide (openE r true=0) else false then decide (openE r (readIs r 2 1)=0) else false)=true->(bif bif bif bif bif decide (openE q (whenIs q 1 0)=0) then decide (openE q (isFound q 1)=0) else false then decide (openE q true=0) else false then decide (openE r (isPlate r 0)=0) else false then decide (openE r true=0) else false then decide (openE r (readIs r 2 1)=0) else false)=true)/\((bif bif bif bif bif decide (openE q (whenIs q 1 0)=0) then decide (openE q (isFound q 1)=0) else false then decide (openE q true=0) else false then decide (openE r (isPlate r 0)=0) else false then decide (openE r true=0) else false then decide (openE r (readIs r 2 1)=0) else false)=true->(bif bif bif bif bif decide (openE q (whenIs q 1 0)=0) then decide (openE q (isFound q 1)=0) else false then decide (openE q true=0) else false then decide (openE r (isPlate r 0)=0) else false then decide (openE r true=0) else false then decide (openE r (readIs r 2 1)=0) else false)=true)/\True)/\True)/\(((bif bif bif bif bif decide (openE q (whenIs q 1 0)=0) then decide (openE q (isFound q 1)=0) else false then decide (openE q true=0) else false then decide (openE r (isPlate r 0)=0) else false then decide (openE r true=0) else false then decide (openE r (readIs r 2 1)=0) else false)=true->(bif bif bif bif bif decide (openE q (whenIs q 1 0)=0) then decide (openE q (isFound q 1)=0) else false then decide (openE q true=0) else false then decide (openE r (isPlate r 0)=0) else false then decide (openE r true=0) else false then decide (openE r (readIs r 2 1)=0) else false)=true)/\((bif bif bif bif bif decide (openE q (whenIs q 1 0)=0) then decide (openE q (isFound q 1)=0) else false then decide (openE q true=0) else false then decide (openE r (isPlate r 0)=0) else false then decide (openE r true=0) else false then decide (openE r (readIs r 2 1)=0) else false)=false->True))/\True/\((bif bif bif bif bif bif decide (openE q (whenIs q 1 0)=0) then decide (openE q (isFound q 1)=0) else false then decide (openE q true=0) else false then decide (openE r (isPlate r 0)=0) else false then decide (openE r true=0) else false then decide (openE r (readIs r 2 1)=0) else false then decide ((whenS q 1 0).lo=7) && (decide ((whenS q 1 0).hi=9) && true) else false)=true->(True/\True)/\True)/\((bif bif bif bif bif bif decide (openE q (whenIs q 1 0)=0) then decide (openE q (isFound q 1)=0) else false then decide (openE q true=0) else false then decide (openE r (isPlate r 0)=0) else false then decide (openE r true=0) else false then decide (openE r (readIs r 2 1)=0) else false then decide ((whenS q 1 0).lo=7) && (decide ((whenS q 1 0).hi=9) && true) else false)=true->(True/\True)/\True)/\((bif bif bif bif bif bif decide (openE q (whenIs q 1 0)=0) then decide (openE q (isFound q 1)=0) else false then decide (openE q true=0) else false then decide (openE r (isPlate r 0)=0) else false then decide (openE r true=0) else false then decide (openE r (readIs r 2 1)=0) else false then decide ((whenS q 1 0).lo=7) && (decide ((whenS q 1 0).hi=9) && true) else false)=true->(True/\((bif bif bif bif bif bif decide (openE q (whenIs q 1 0)=0) then decide (openE q (isFound q 1)=0) else false then decide (openE q true=0) else false then decide (openE r (isPlate r 0)=0) else false then decide (openE r true=0) else false then decide (openE r (readIs r 2 1)=0) else false then decide ((whenS q 1 0).lo=7) && (decide ((whenS q 1 0).hi=9) && true) else false)=true->(bif bif bif bif bif bif decide (openE q (whenIs q 1 0)=0) then decide (openE q (isFound q 1)=0) else false then decide (openE q true=0) else false then decide (openE r (isPlate r 0)=0) else false then decide (openE r true=0) else false then decide (openE r (readIs r 2 1)=0) else false then decide ((whenS q 1 0).lo=7) && (decide ((whenS q 1 0).hi=9) && true) else false)=true)/\((bif bif bif bif bif bif decide (openE q (whenIs q 1 0)=0) then decide (openE q (isFound q 1)=0) else false then decide (openE q true=0) else false then decide (openE r (isPlate r 0)=0) else false then decide (openE r true=0) else false then decide (openE r (readIs r 2 1)=0) else false then decide ((whenS q 1 0).lo=7) && (decide ((whenS q 1 0).hi=9) && true) else false)=true->(bif bif bif bif bif bif decide (openE q (whenIs q 1 0)=0) then decide (openE q (isFound q 1)=0) else false then decide (openE q true=0) else false then decide (openE r (isPlate r 0)=0) else false then decide (openE r true=0) else false then decide (openE r (readIs r 2 1)=0) else false then decide ((whenS q 1 0).lo=7) && (decide ((whenS q 1 0).hi=9) && true) else false)=true)/\True)/\((1=1/\(whereS q 1).length=(whereS q 1).length /\ ∀ (i45:Nat),i45 < (whereS q 1).length -> [iv ((whereS q 1).getD i45 0)] = [iv ((whereS q 1).getD i45 0)])/\(1=1/\1=1 /\ ∀ (i47:Nat),i47 < List.length [1]->List.getD [[iv 1]] i47 (TI.za ti3) = [iv (List.getD [1] i47 0)])/\True)/\Triple Try.prog 37 (c19 r q)/\(whereS q 1).length<=1125899906842624/\True /\ ∀ (i49:Env),True)/\(((bif bif bif bif bif bif decide (openE q (whenIs q 1 0)=0) then decide (openE q (isFound q 1)=0) else false then decide (openE q true=0) else false then decide (openE r (isPlate r 0)=0) else false then decide (openE r true=0) else false then decide (openE r (readIs r 2 1)=0) else false then decide ((whenS q 1 0).lo=7) && (decide ((whenS q 1 0).hi=9) && true) else false)=true->(bif bif bif bif bif bif decide (openE q (whenIs q 1 0)=0) then decide (openE q (isFound q 1)=0) else false then decide (openE q true=0) else false then decide (openE r (isPlate r 0)=0) else false then decide (openE r true=0) else false then decide (openE r (readIs r 2 1)=0) else false then decide ((whenS q 1 0).lo=7) && (decide ((whenS q 1 0).hi=9) && true) else false)=true)/\((bif bif bif bif bif bif decide (openE q (whenIs q 1 0)=0) then decide (openE q (isFound q 1)=0) else false then decide (openE q true=0) else false then decide (openE r (isPlate r 0)=0) else false then decide (openE r true=0) else false then decide (openE r (readIs r 2 1)=0) else false then decide ((whenS q 1 0).lo=7) && (decide ((whenS q 1 0).hi=9) && true) else false)=false->True))/\True/\((bif bif bif bif bif bif bif decide (openE q (whenIs q 1 0)=0) then decide (openE q (isFound q 1)=0) else false then decide (openE q true=0) else false then decide (openE r (isPlate r 0)=0) else false then decide (openE r true=0) else false then decide (openE r (readIs r 2 1)=0) else false then decide ((whenS q 1 0).lo=7) && (decide ((whenS q 1 0).hi=9) && true) else false then sameInts (whereS q 1) [1] else false)=true->(True/\True)/\True)/\((bif bif bif bif bif bif bif decide (openE q (whenIs q 1 0)=0) then decide (openE q (isFound q 1)=0) else false then decide (openE q true=0) else false then decide (openE r (isPlate r 0)=0) else false then decide (openE r true=0) else false then decide (openE r (readIs r 2 1)=0) else false then decide ((whenS q 1 0).lo=7) && (decide ((whenS q 1 0).hi=9) && true) else false then sameInts (whereS q 1) [1] else false)=true->(((bif bif bif bif bif bif bif decide (openE q (whenIs q 1 0)=0) then decide (openE q (isFound q 1)=0) else false then decide (openE q true=0) else false then decide (openE r (isPlate r 0)=0) else false then decide (openE r true=0) else false then decide (openE r (readIs r 2 1)=0) else false then decide ((whenS q 1 0).lo=7) && (decide ((whenS q 1 0).hi=9) && true) else false then sameInts (whereS q 1) [1] else false)=true->(bif bif bif bif bif bif bif decide (openE q (whenIs q 1 0)=0) then decide (openE q (isFound q 1)=0) else false then decide (openE q true=0) else false then decide (openE r (isPlate r 0)=0) else false then decide (openE r true=0) else false then decide (openE r (readIs r 2 1)=0) else false then decide ((whenS q 1 0).lo=7) && (decide ((whenS q 1 0).hi=9) && true) else false then sameInts (whereS q 1) [1] else false)=true)/\True/\True)/\True)/\(((bif bif bif bif bif bif bif decide (openE q (whenIs q 1 0)=0) then decide (openE q (isFound q 1)=0) else false then decide (openE q true=0) else false then decide (openE r (isPlate r 0)=0) else false then decide (openE r true=0) else false then decide (openE r (readIs r 2 1)=0) else false then decide ((whenS q 1 0).lo=7) && (decide ((whenS q 1 0).hi=9) && true) else false then sameInts (whereS q 1) [1] else false)=true->(bif bif bif bif bif bif bif decide (openE q (whenIs q 1 0)=0) then decide (openE q (isFound q 1)=0) else false then decide (openE q true=0) else false then decide (openE r (isPlate r 0)=0) else false then decide (openE r true=0) else false then decide (openE r (readIs r 2 1)=0) else false then decide ((whenS q 1 0).lo=7) && (decide ((whenS q 1 0).hi=9) && true) else false then sameInts (whereS q 1) [1] else false)=true)/\((bif bif bif bif bif bif bif decide (openE q (whenIs q 1 0)=0) then decide (openE q (isFound q 1)=0) else false then decide (openE q true=0) else false then decide (openE r (isPlate r 0)=0) else false then decide (openE r true=0) else false then decide (openE r (readIs r 2 1)=0) else false then decide ((whenS q 1 0).lo=7) && (decide ((whenS q 1 0).hi=9) && true) else false then sameInts (whereS q 1) [1] else false)=false->True))/\True/\((bif bif bif bif bif bif bif bif decide (openE q (whenIs q 1 0)=0) then decide (openE q (isFound q 1)=0) else false then decide (openE q true=0) else false then decide (openE r (isPlate r 0)=0) else false then decide (openE r true=0) else false then decide (openE r (readIs r 2 1)=0) else false then decide ((whenS q 1 0).lo=7) && (decide ((whenS q 1 0).hi=9) && true) else false then sameInts (whereS q 1) [1] else false then decide (fewP q=2) else false)=true->(True/\True)/\True)/\((bif bif bif bif bif bif bif bif decide (openE q (whenIs q 1 0)=0) then decide (openE q (isFound q 1)=0) else false then decide (openE q true=0) else false then decide (openE r (isPlate r 0)=0) else false then decide (openE r true=0) else false then decide (openE r (readIs r 2 1)=0) else false then decide ((whenS q 1 0).lo=7) && (decide ((whenS q 1 0).hi=9) && true) else false then sameInts (whereS q 1) [1] else false then decide (fewP q=2) else false)=true->(True/\True/\True/\True)/\(iv 32=iv 32/\iv 57=iv 57/\True)/\Triple Try.prog 29 (s29 32 57)/\True/\True /\ ∀ (i59:Env),True)/\((bif bif bif bif bif bif bif bif decide (openE q (whenIs q 1 0)=0) then decide (openE q (isFound q 1)=0) else false then decide (openE q true=0) else false then decide (openE r (isPlate r 0)=0) else false then decide (openE r true=0) else false then decide (openE r (readIs r 2 1)=0) else false then decide ((whenS q 1 0).lo=7) && (decide ((whenS q 1 0).hi=9) && true) else false then sameInts (whereS q 1) [1] else false then decide (fewP q=2) else false)=true->(((bif bif bif bif bif bif bif bif decide (openE q (whenIs q 1 0)=0) then decide (openE q (isFound q 1)=0) else false then decide (openE q true=0) else false then decide (openE r (isPlate r 0)=0) else false then decide (openE r true=0) else false then decide (openE r (readIs r 2 1)=0) else false then decide ((whenS q 1 0).lo=7) && (decide ((whenS q 1 0).hi=9) && true) else false then sameInts (whereS q 1) [1] else false then decide (fewP q=2) else false)=true->(bif bif bif bif bif bif bif bif decide (openE q (whenIs q 1 0)=0) then decide (openE q (isFound q 1)=0) else false then decide (openE q true=0) else false then decide (openE r (isPlate r 0)=0) else false then decide (openE r true=0) else false then decide (openE r (readIs r 2 1)=0) else false then decide ((whenS q 1 0).lo=7) && (decide ((whenS q 1 0).hi=9) && true) else false then sameInts (whereS q 1) [1] else false then decide (fewP q=2) else false)=true)/\((bif bif bif bif bif bif bif bif decide (openE q (whenIs q 1 0)=0) then decide (openE q (isFound q 1)=0) else false then decide (openE q true=0) else false then decide (openE r (isPlate r 0)=0) else false then decide (openE r true=0) else false then decide (openE r (readIs r 2 1)=0) else false then decide ((whenS q 1 0).lo=7) && (decide ((whenS q 1 0).hi=9) && true) else false then sameInts (whereS q 1) [1] else false then decide (fewP q=2) else false)=true->(bif bif bif bif bif bif bif bif decide (openE q (whenIs q 1 0)=0) then decide (openE q (isFound q 1)=0) else false then decide (openE q true=0) else false then decide (openE r (isPlate r 0)=0) else false then decide (openE r true=0) else false then decide (openE r (readIs r 2 1)=0) else false then decide ((whenS q 1 0).lo=7) && (decide ((whenS q 1 0).hi=9) && true) else false then sameInts (whereS q 1) [1] else false then decide (fewP q=2) else false)=true)/\True)/\True)/\(((bif bif bif bif bif bif bif bif decide (openE q (whenIs q 1 0)=0) then decide (openE q (isFound q 1)=0) else false then decide (openE q true=0) else false then decide (openE r (isPlate r 0)=0) else false then decide (openE r true=0) else false then decide (openE r (readIs r 2 1)=0) else false then decide ((whenS q 1 0).lo=7) && (decide ((whenS q 1 0).hi=9) && true) else false then sameInts (whereS q 1) [1] else false then decide (fewP q=2) else false)=true->(bif bif bif bif bif bif bif bif decide (openE q (whenIs q 1 0)=0) then decide (openE q (isFound q 1)=0) else false then decide (openE q true=0) else false then decide (openE r (isPlate r 0)=0) else false then decide (openE r true=0) else false then decide (openE r (readIs r 2 1)=0) else false then decide ((whenS q 1 0).lo=7) && (decide ((whenS q 1 0).hi=9) && true) else false then sameInts (whereS q 1) [1] else false then decide (fewP q=2) else false)=true)/\((bif bif bif bif bif bif bif bif decide (openE q (whenIs q 1 0)=0) then decide (openE q (isFound q 1)=0) else false then decide (openE q true=0) else false then decide (openE r (isPlate r 0)=0) else false then decide (openE r true=0) else false then decide (openE r (readIs r 2 1)=0) else false then decide ((whenS q 1 0).lo=7) && (decide ((whenS q 1 0).hi=9) && true) else false then sameInts (whereS q 1) [1] else false then decide (fewP q=2) else false)=false->True))/\True/\((bif bif bif bif bif bif bif bif bif decide (openE q (whenIs q 1 0)=0) then decide (openE q (isFound q 1)=0) else false then decide (openE q true=0) else false then decide (openE r (isPlate r 0)=0) else false then decide (openE r true=0) else false then decide (openE r (readIs r 2 1)=0) else false then decide ((whenS q 1 0).lo=7) && (decide ((whenS q 1 0).hi=9) && true) else false then sameInts (whereS q 1) [1] else false then decide (fewP q=2) else false then decide ((oldS r 0).lo=32) && (decide ((oldS r 0).hi=57) && true) else false)=true->(True/\True)/\True)/\((bif bif bif bif bif bif bif bif bif decide (openE q (whenIs q 1 0)=0) then decide (openE q (isFound q 1)=0) else false then decide (openE q true=0) else false then decide (openE r (isPlate r 0)=0) else false then decide (openE r true=0) else false then decide (openE r (readIs r 2 1)=0) else false then decide ((whenS q 1 0).lo=7) && (decide ((whenS q 1 0).hi=9) && true) else false then sameInts (whereS q 1) [1] else false then decide (fewP q=2) else false then decide ((oldS r 0).lo=32) && (decide ((oldS r 0).hi=57) && true) else false)=true->(True/\True/\True/\True)/\(iv 3=iv 3/\iv 57=iv 57/\True)/\Triple Try.prog 29 (s29 3 57)/\True/\True /\ ∀ (i67:Env),True)/\((bif bif bif bif bif bif bif bif bif decide (openE q (whenIs q 1 0)=0) then decide (openE q (isFound q 1)=0) else false then decide (openE q true=0) else false then decide (openE r (isPlate r 0)=0) else false then decide (openE r true=0) else false then decide (openE r (readIs r 2 1)=0) else false then decide ((whenS q 1 0).lo=7) && (decide ((whenS q 1 0).hi=9) && true) else false then sameInts (whereS q 1) [1] else false then decide (fewP q=2) else false then decide ((oldS r 0).lo=32) && (decide ((oldS r 0).hi=57) && true) else false)=true->(((bif bif bif bif bif bif bif bif bif decide (openE q (whenIs q 1 0)=0) then decide (openE q (isFound q 1)=0) else false then decide (openE q true=0) else false then decide (openE r (isPlate r 0)=0) else false then decide (openE r true=0) else false then decide (openE r (readIs r 2 1)=0) else false then decide ((whenS q 1 0).lo=7) && (decide ((whenS q 1 0).hi=9) && true) else false then sameInts (whereS q 1) [1] else false then decide (fewP q=2) else false then decide ((oldS r 0).lo=32) && (decide ((oldS r 0).hi=57) && true) else false)=true->(bif bif bif bif bif bif bif bif bif decide (openE q (whenIs q 1 0)=0) then decide (openE q (isFound q 1)=0) else false then decide (openE q true=0) else false then decide (openE r (isPlate r 0)=0) else false then decide (openE r true=0) else false then decide (openE r (readIs r 2 1)=0) else false then decide ((whenS q 1 0).lo=7) && (decide ((whenS q 1 0).hi=9) && true) else false then sameInts (whereS q 1) [1] else false then decide (fewP q=2) else false then decide ((oldS r 0).lo=32) && (decide ((oldS r 0).hi=57) && true) else false)=true)/\((bif bif bif bif bif bif bif bif bif decide (openE q (whenIs q 1 0)=0) then decide (openE q (isFound q 1)=0) else false then decide (openE q true=0) else false then decide (openE r (isPlate r 0)=0) else false then decide (openE r true=0) else false then decide (openE r (readIs r 2 1)=0) else false then decide ((whenS q 1 0).lo=7) && (decide ((whenS q 1 0).hi=9) && true) else false then sameInts (whereS q 1) [1] else false then decide (fewP q=2) else false then decide ((oldS r 0).lo=32) && (decide ((oldS r 0).hi=57) && true) else false)=true->(bif bif bif bif bif bif bif bif bif decide (openE q (whenIs q 1 0)=0) then decide (openE q (isFound q 1)=0) else false then decide (openE q true=0) else false then decide (openE r (isPlate r 0)=0) else false then decide (openE r true=0) else false then decide (openE r (readIs r 2 1)=0) else false then decide ((whenS q 1 0).lo=7) && (decide ((whenS q 1 0).hi=9) && true) else false then sameInts (whereS q 1) [1] else false then decide (fewP q=2) else false then decide ((oldS r 0).lo=32) && (decide ((oldS r 0).hi=57) && true) else false)=true)/\True)/\True)/\(((bif bif bif bif bif bif bif bif bif decide (openE q (whenIs q 1 0)=0) then decide (openE q (isFound q 1)=0) else false then decide (openE q true=0) else false then decide (openE r (isPlate r 0)=0) else false then decide (openE r true=0) else false then decide (openE r (readIs r 2 1)=0) else false then decide ((whenS q 1 0).lo=7) && (decide ((whenS q 1 0).hi=9) && true) else false then sameInts (whereS q 1) [1] else false then decide (fewP q=2) else false then decide ((oldS r 0).lo=32) && (decide ((oldS r 0).hi=57) && true) else false)=true->(bif bif bif bif bif bif bif bif bif decide (openE q (whenIs q 1 0)=0) then decide (openE q (isFound q 1)=0) else false then decide (openE q true=0) else false then decide (openE r (isPlate r 0)=0) else false then decide (openE r true=0) else false then decide (openE r (readIs r 2 1)=0) else false then decide ((whenS q 1 0).lo=7) && (decide ((whenS q 1 0).hi=9) && true) else false then sameInts (whereS q 1) [1] else false then decide (fewP q=2) else false then decide ((oldS r 0).lo=32) && (decide ((oldS r 0).hi=57) && true) else false)=true)/\((bif bif bif bif bif bif bif bif bif decide (openE q (whenIs q 1 0)=0) then decide (openE q (isFound q 1)=0) else false then decide (openE q true=0) else false then decide (openE r (isPlate r 0)=0) else false then decide (openE r true=0) else false then decide (openE r (readIs r 2 1)=0) else false then decide ((whenS q 1 0).lo=7) && (decide ((whenS q 1 0).hi=9) && true) else false then sameInts (whereS q 1) [1] else false then decide (fewP q=2) else false then decide ((oldS r 0).lo=32) && (decide ((oldS r 0).hi=57) && true) else false)=false->True))/\True/\((bif bif bif bif bif bif bif bif bif bif decide (openE q (whenIs q 1 0)=0) then decide (openE q (isFound q 1)=0) else false then decide (openE q true=0) else false then decide (openE r (isPlate r 0)=0) else false then decide (openE r true=0) else false then decide (openE r (readIs r 2 1)=0) else false then decide ((whenS q 1 0).lo=7) && (decide ((whenS q 1 0).hi=9) && true) else false then sameInts (whereS q 1) [1] else false then decide (fewP q=2) else false then decide ((oldS r 0).lo=32) && (decide ((oldS r 0).hi=57) && true) else false then decide ((mixesS r).lo=3) && (decide ((mixesS r).hi=57) && true) else false)=true->(True/\True)/\True)/\((bif bif bif bif bif bif bif bif bif bif decide (openE q (whenIs q 1 0)=0) then decide (openE q (isFound q 1)=0) else false then decide (openE q true=0) else false then decide (openE r (isPlate r 0)=0) else false then decide (openE r true=0) else false then decide (openE r (readIs r 2 1)=0) else false then decide ((whenS q 1 0).lo=7) && (decide ((whenS q 1 0).hi=9) && true) else false then sameInts (whereS q 1) [1] else false then decide (fewP q=2) else false then decide ((oldS r 0).lo=32) && (decide ((oldS r 0).hi=57) && true) else false then decide ((mixesS r).lo=3) && (decide ((mixesS r).hi=57) && true) else false)=true->(((bif bif bif bif bif bif bif bif bif bif decide (openE q (whenIs q 1 0)=0) then decide (openE q (isFound q 1)=0) else false then decide (openE q true=0) else false then decide (openE r (isPlate r 0)=0) else false then decide (openE r true=0) else false then decide (openE r (readIs r 2 1)=0) else false then decide ((whenS q 1 0).lo=7) && (decide ((whenS q 1 0).hi=9) && true) else false then sameInts (whereS q 1) [1] else false then decide (fewP q=2) else false then decide ((oldS r 0).lo=32) && (decide ((oldS r 0).hi=57) && true) else false then decide ((mixesS r).lo=3) && (decide ((mixesS r).hi=57) && true) else false)=true->(bif bif bif bif bif bif bif bif bif bif decide (openE q (whenIs q 1 0)=0) then decide (openE q (isFound q 1)=0) else false then decide (openE q true=0) else false then decide (openE r (isPlate r 0)=0) else false then decide (openE r true=0) else false then decide (openE r (readIs r 2 1)=0) else false then decide ((whenS q 1 0).lo=7) && (decide ((whenS q 1 0).hi=9) && true) else false then sameInts (whereS q 1) [1] else false then decide (fewP q=2) else false then decide ((oldS r 0).lo=32) && (decide ((oldS r 0).hi=57) && true) else false then decide ((mixesS r).lo=3) && (decide ((mixesS r).hi=57) && true) else false)=true)/\True/\True)/\True)/\(((bif bif bif bif bif bif bif bif bif bif decide (openE q (whenIs q 1 0)=0) then decide (openE q (isFound q 1)=0) else false then decide (openE q true=0) else false then decide (openE r (isPlate r 0)=0) else false then decide (openE r true=0) else false then decide (openE r (readIs r 2 1)=0) else false then decide ((whenS q 1 0).lo=7) && (decide ((whenS q 1 0).hi=9) && true) else false then sameInts (whereS q 1) [1] else false then decide (fewP q=2) else false then decide ((oldS r 0).lo=32) && (decide ((oldS r 0).hi=57) && true) else false then decide ((mixesS r).lo=3) && (decide ((mixesS r).hi=57) && true) else false)=true->(bif bif bif bif bif bif bif bif bif bif decide (openE q (whenIs q 1 0)=0) then decide (openE q (isFound q 1)=0) else false then decide (openE q true=0) else false then decide (openE r (isPlate r 0)=0) else false then decide (openE r true=0) else false then decide (openE r (readIs r 2 1)=0) else false then decide ((whenS q 1 0).lo=7) && (decide ((whenS q 1 0).hi=9) && true) else false then sameInts (whereS q 1) [1] else false then decide (fewP q=2) else false then decide ((oldS r 0).lo=32) && (decide ((oldS r 0).hi=57) && true) else false then decide ((mixesS r).lo=3) && (decide ((mixesS r).hi=57) && true) else false)=true)/\((bif bif bif bif bif bif bif bif bif bif decide (openE q (whenIs q 1 0)=0) then decide (openE q (isFound q 1)=0) else false then decide (openE q true=0) else false then decide (openE r (isPlate r 0)=0) else false then decide (openE r true=0) else false then decide (openE r (readIs r 2 1)=0) else false then decide ((whenS q 1 0).lo=7) && (decide ((whenS q 1 0).hi=9) && true) else false then sameInts (whereS q 1) [1] else false then decide (fewP q=2) else false then decide ((oldS r 0).lo=32) && (decide ((oldS r 0).hi=57) && true) else false then decide ((mixesS r).lo=3) && (decide ((mixesS r).hi=57) && true) else false)=false->True))/\True/\True) (st':=ASt.mk [(0,bv (bif bif bif bif bif bif bif bif bif bif bif decide (openE q (whenIs q 1 0)=0) then decide (openE q (isFound q 1)=0) else false then decide (openE q true=0) else false then decide (openE r (isPlate r 0)=0) else false then decide (openE r true=0) else false then decide (openE r (readIs r 2 1)=0) else false then decide ((whenS q 1 0).lo=7) && (decide ((whenS q 1 0).hi=9) && true) else false then sameInts (whereS q 1) [1] else false then decide (fewP q=2) else false then decide ((oldS r 0).lo=32) && (decide ((oldS r 0).hi=57) && true) else false then decide ((mixesS r).lo=3) && (decide ((mixesS r).hi=57) && true) else false then decide (readS r 2 1=3) else false))] [] 840) (by kernel_rfl) ⟨tv,tv,tv,(fun h7=>⟨⟨tv,tv⟩,tv⟩),(fun h8=>⟨⟨(fun h9=>h8),tv,tv⟩,tv⟩),⟨(fun h10=>h10),(fun h11=>tv)⟩,tv,(fun h12=>⟨⟨tv,tv⟩,tv⟩),(fun h13=>⟨⟨(fun h14=>h13),tv,tv⟩,tv⟩),⟨(fun h15=>h15),(fun h16=>tv)⟩,tv,(fun h17=>⟨⟨tv,tv⟩,tv⟩),(fun h18=>⟨⟨(fun h19=>h18),tv,tv⟩,tv⟩),⟨(fun h20=>h20),(fun h21=>tv)⟩,tv,(fun h22=>⟨⟨tv,tv⟩,tv⟩),(fun h23=>⟨⟨(fun h24=>h23),tv,tv⟩,tv⟩),⟨(fun h25=>h25),(fun h26=>tv)⟩,tv,(fun h27=>⟨⟨tv,tv⟩,tv⟩),(fun h28=>⟨⟨(fun h29=>h28),tv,tv⟩,tv⟩),⟨(fun h30=>h30),(fun h31=>tv)⟩,tv,(fun h32=>⟨⟨tv,tv⟩,tv⟩),(fun h33=>⟨⟨tv,tv,tv,tv⟩,⟨rfl,rfl,tv⟩,(t29 (7) (9)),tv,tv,(fun i34=>tv)⟩),(fun h35=>⟨⟨(fun h36=>h35),(fun h37=>h35),tv⟩,tv⟩),⟨(fun h38=>h38),(fun h39=>tv)⟩,tv,(fun h40=>⟨⟨tv,tv⟩,tv⟩),(fun h41=>⟨⟨tv,tv⟩,tv⟩),(fun h42=>⟨⟨tv,(fun h43=>h42),(fun h44=>h42),tv⟩,⟨⟨rfl,rfl,(fun i45=>(fun h46=>rfl))⟩,⟨rfl,rfl,(fun i47=>(fun h48=>(o6 hp h42 i47 h48)))⟩,tv⟩,(t37 _ _),(o7 hp h42),tv,(fun i49=>tv)⟩),⟨(fun h50=>h50),(fun h51=>tv)⟩,tv,(fun h52=>⟨⟨tv,tv⟩,tv⟩),(fun h53=>⟨⟨(fun h54=>h53),tv,tv⟩,tv⟩),⟨(fun h55=>h55),(fun h56=>tv)⟩,tv,(fun h57=>⟨⟨tv,tv⟩,tv⟩),(fun h58=>⟨⟨tv,tv,tv,tv⟩,⟨rfl,rfl,tv⟩,(t29 (32) (57)),tv,tv,(fun i59=>tv)⟩),(fun h60=>⟨⟨(fun h61=>h60),(fun h62=>h60),tv⟩,tv⟩),⟨(fun h63=>h63),(fun h64=>tv)⟩,tv,(fun h65=>⟨⟨tv,tv⟩,tv⟩),(fun h66=>⟨⟨tv,tv,tv,tv⟩,⟨rfl,rfl,tv⟩,(t29 (3) (57)),tv,tv,(fun i67=>tv)⟩),(fun h68=>⟨⟨(fun h69=>h68),(fun h70=>h68),tv⟩,tv⟩),⟨(fun h71=>h71),(fun h72=>tv)⟩,tv,(fun h73=>⟨⟨tv,tv⟩,tv⟩),(fun h74=>⟨⟨(fun h75=>h74),tv,tv⟩,tv⟩),⟨(fun h76=>h76),(fun h77=>tv)⟩,tv,tv⟩ ?_
 refine swp_ret ?_
 exact ret_q [] ((True/\True)/\(bv (bif bif bif bif bif bif bif bif bif bif bif decide (openE q (whenIs q 1 0)=0) then decide (openE q (isFound q 1)=0) else false then decide (openE q true=0) else false then decide (openE r (isPlate r 0)=0) else false then decide (openE r true=0) else false then decide (openE r (readIs r 2 1)=0) else false then decide ((whenS q 1 0).lo=7) && (decide ((whenS q 1 0).hi=9) && true) else false then sameInts (whereS q 1) [1] else false then decide (fewP q=2) else false then decide ((oldS r 0).lo=32) && (decide ((oldS r 0).hi=57) && true) else false then decide ((mixesS r).lo=3) && (decide ((mixesS r).hi=57) && true) else false then decide (readS r 2 1=3) else false)=bv true/\nilN = [])/\T3) (by kernel_rfl) ⟨⟨tv,tv⟩,⟨(congrArg bv (o8 hp)),rfl⟩,rfl,rfl,rfl⟩
theorem tw19 (r q:Run):Triple Try.prog 19 (sw19 r q):=by
 apply w19
 case o7=>rintro ⟨rfl,rfl⟩ _; rw [x_where]; decide
 case o8 =>
  rintro ⟨rfl,rfl⟩
  obtain ⟨h1,h2,h3,h4,h5,h6⟩:=x_ok
  rw [h1,h2,h3,h4,h5,h6,x_where,x_when,x_old,x_mix,x_read,x_few]
  decide
 all_goals (rintro ⟨rfl,rfl⟩; first | exact small_fits small_exR | exact small_fits small_exQ | skip)
 all_goals (intro _ i hi; have:i=0:=by simpa using hi)
 all_goals (subst this; rfl)
theorem t19:Triple Try.prog 19 s19:=⟨(tw19 exR exQ).1,fun _=>(tw19 exR exQ).2 ⟨rfl,rfl⟩⟩
end Go.Ab
namespace Go.Sh
def chFrom (r:Run) (first:List Int):Nat->List (List Int)
 | 0=>[first]
 | k + 1=>(chFrom r first k).flatMap fun l=>(fnd r l.length).frm.map fun m=>l ++ [m]
theorem chFrom_head (r:Run):∀ k first,chFrom r first (k + 1)=(fnd r first.length).frm.flatMap fun m=>chFrom r (first ++ [m]) k:=by
 intro k
 induction k with
 | zero =>
  intro first
  simp only [chFrom,List.flatMap_cons,List.flatMap_nil,List.append_nil]
  generalize (fnd r first.length).frm=l
  induction l with
  | nil=>rfl
  | cons x l ih=>rw [List.map_cons,List.flatMap_cons,ih]; rfl
 | succ k ih =>
  intro first
  rw [chFrom,ih,List.flatMap_assoc]
  rfl
theorem choicesN_from (r:Run):∀ k first,choicesN r k first=chFrom r first k:=by
 intro k
 induction k with
 | zero=>intro first; rfl
 | succ k ih =>
  intro first
  rw [choicesN,chFrom_head]
  congr 1
  funext m
  exact ih _
theorem choices_from (r:Run):choices r []=chFrom r [] r.found.length:=by
 rw [choices,choicesN_from]; rfl
theorem spanTo_snoc (r:Run) (l:List Int) (x:Int) (j q:Nat):∀ n,n<=l.length->spanTo r (l ++ [x]) j q n=spanTo r l j q n:=by
 intro n
 induction n with
 | zero=>intro _; rfl
 | succ n ih =>
  intro h
  rw [spanTo_succ,spanTo_succ,ih (by omega)]
  have e:(l ++ [x]).getD n 0=l.getD n 0:=by rw [Go.Ab.getD_append,if_pos (by omega)]
  unfold spanStep
  rw [e]
theorem spanOf_snoc (r:Run) (l:List Int) (x:Int) (j q:Nat):spanOf r (l ++ [x]) j q=if x=(j:Int) then seeOne (fnd r l.length) q (spanOf r l j q) else spanOf r l j q:=by
 unfold spanOf
 rw [List.length_append,List.length_singleton,spanTo_succ,spanTo_snoc r l x j q _ (Nat.le_refl _)]
 unfold spanStep
 rw [Go.Ab.getD_append,if_neg (Nat.lt_irrefl _),Nat.sub_self]
 show (if x=(j:Int) then _ else _)=_
 split
 ·unfold seeOne
  by_cases h0:(fnd r l.length).new.getD q 0=0
  ·rw [if_pos h0,if_neg (by rw [h0]; decide),if_pos h0]
  ·rw [if_neg h0]
   split
   ·rfl
   ·rfl
 ·rfl
theorem seeOne_narrow (c:Fnd) (q:Nat) (s:Span):s.lo<=(seeOne c q s).lo/\(seeOne c q s).hi<=s.hi:=by
 unfold seeOne
 split
 ·exact ⟨Int.le_max_left _ _,Int.le_refl _⟩
 ·split
  ·exact ⟨Int.le_refl _,Int.min_le_left _ _⟩
  ·exact ⟨Int.le_refl _,Int.le_refl _⟩
theorem canBe_iff {r:Run} (ok:Ok r) {l:List Int}:canBe r l=true ↔ ∀ m,m < r.machines.length -> ∀ p:Nat,(p:Int) < r.plates->(spanOf r l m p).lo<=(spanOf r l m p).hi:=by
 unfold canBe canBeM canBeAt
 simp only [List.all_eq_true,List.mem_range,decide_eq_true_eq]
 have:=ok.plates
 constructor
 ·intro h m hm p hp; exact h m hm p (by omega)
 ·intro h m hm p hp; exact h m hm p (by omega)
theorem canBe_snoc {r:Run} (ok:Ok r) {l:List Int} {x:Int} (h:canBe r (l ++ [x])=true):canBe r l=true:=by
 rw [canBe_iff ok] at h ⊢
 intro m hm p hp
 have h1:=h m hm p hp
 rw [spanOf_snoc] at h1
 split at h1
 ·have:=seeOne_narrow (fnd r l.length) p (spanOf r l m p); omega
 ·exact h1
theorem seeN_spec (c:Fnd) (m:Nat):∀ k p (f:Nat->Nat->Span),((seeN c m k p f).1=true ↔ ∀ q,p<=q->q < p + k->(seeOne c q (f m q)).lo<=(seeOne c q (f m q)).hi) ∧
  ((seeN c m k p f).1=true -> ∀ j q,(seeN c m k p f).2 j q=if j=m/\p<=q/\q < p + k then seeOne c q (f j q) else f j q):=by
 intro k
 induction k with
 | zero =>
  intro p f
  refine ⟨⟨fun _ q h1 h2=>by omega,fun _=>rfl⟩,fun _ j q => ?_⟩
  rw [if_neg (by omega)]; rfl
 | succ k ih =>
  intro p f
  by_cases hs:(seeOne c p (f m p)).lo > (seeOne c p (f m p)).hi
  ·rw [seeN_stop hs]
   refine ⟨⟨fun h=>(by cases h),fun h => ?_⟩,fun h=>(by cases h)⟩
   have:=h p (Nat.le_refl _) (by omega)
   omega
  ·rw [seeN_go hs]
   obtain ⟨h1,h2⟩:=ih (p + 1) (upd2 f m p (seeOne c p (f m p)))
   have hq:∀ q,p + 1<=q->upd2 f m p (seeOne c p (f m p)) m q=f m q:=by
    intro q hq
    unfold upd2
    rw [if_pos rfl,if_neg (by omega)]
   refine ⟨⟨fun h q a b => ?_,fun h=>h1.2 fun q a b => ?_⟩,fun h j q => ?_⟩
   ·by_cases e:q=p
    ·subst e; omega
    ·have:=h1.1 h q (by omega) (by omega)
     rw [hq q (by omega)] at this
     exact this
   ·rw [hq q a]
    exact h q (by omega) (by omega)
   ·rw [h2 h j q]
    by_cases hj:j=m
    ·subst hj
     by_cases e:q=p
     ·subst e
      rw [if_neg (by omega),if_pos ⟨rfl,by omega,by omega⟩,upd2_at]
     ·by_cases hr:p + 1<=q/\q < p + 1 + k
      ·rw [if_pos ⟨rfl,hr⟩,if_pos ⟨rfl,by omega,by omega⟩,hq q hr.1]
      ·rw [if_neg (fun h=>hr h.2),if_neg (by omega)]
       unfold upd2
       rw [if_pos rfl,if_neg e]
    ·rw [if_neg (fun h=>hj h.1),if_neg (fun h=>hj h.1)]
     unfold upd2
     rw [if_neg hj]
theorem filter_flatMap {α β:Type} (L:List α) (g:α->List β) (P:α->Bool) (Q:β->Bool) (h:∀ l,l ∈ L->P l=false -> ∀ x,x ∈ g l->Q x=false):(L.flatMap g).filter Q=(L.filter P).flatMap fun l=>(g l).filter Q:=by
 induction L with
 | nil=>rfl
 | cons a L ih =>
  rw [List.flatMap_cons,List.filter_append,ih (fun l hl=>h l (List.mem_cons_of_mem _ hl))]
  cases hp:P a with
  | true=>rw [List.filter_cons_of_pos hp,List.flatMap_cons]
  | false =>
   rw [List.filter_cons_of_neg (by rw [hp]; exact Bool.false_ne_true)]
   have:(g a).filter Q = []:=by
    rw [List.filter_eq_nil_iff]
    intro x hx
    rw [h a (List.mem_cons_self ..) hp x hx]; exact Bool.false_ne_true
   rw [this]; rfl
def WayOK (r:Run) (w:WayS):Prop:=canBe r w.frm=true /\ ∀ m,m < r.machines.length -> ∀ p:Nat,(p:Int) < r.plates->w.whn m p=spanOf r w.frm m p
theorem one_ok {r:Run} (ok:Ok r) {n:Nat} (hn:n < r.found.length) {w:WayS} (hw:WayOK r w) (hl:w.frm.length=n) {x:Int} (hx:0<=x/\x < r.machines.length) :
  (see (fnd r n) x.toNat w.whn).1=canBe r (w.frm ++ [x])/\((see (fnd r n) x.toNat w.whn).1=true->WayOK r ⟨w.frm ++ [x],(see (fnd r n) x.toNat w.whn).2⟩):=by
 obtain ⟨h1,h2⟩:=seeN_spec (fnd r n) x.toNat (fnd r n).new.length 0 w.whn
 have hf:=ok.fnd n hn
 have hp:=ok.plates
 have key:∀ j,j < r.machines.length -> ∀ q:Nat,(q:Int) < r.plates->spanOf r (w.frm ++ [x]) j q=if j=x.toNat then seeOne (fnd r n) q (w.whn j q) else w.whn j q:=by
  intro j hj q hq
  rw [spanOf_snoc,hl,hw.2 j hj q hq]
  by_cases e:j=x.toNat
  ·rw [if_pos e,if_pos (by omega)]
  ·rw [if_neg e,if_neg (by omega)]
 have hc:=(canBe_iff ok).1 hw.1
 have hiff:(see (fnd r n) x.toNat w.whn).1=true ↔ canBe r (w.frm ++ [x])=true:=by
  unfold see
  rw [h1,canBe_iff ok]
  constructor
  ·intro h m hm p hpp
   rw [key m hm p hpp]
   split
   ·rename_i e
    subst e
    exact h p (Nat.zero_le _) (by omega)
   ·rw [hw.2 m hm p hpp]; exact hc m hm p hpp
  ·intro h q _ hq
   have:=h x.toNat (by omega) q (by omega)
   rw [key _ (by omega) q (by omega),if_pos rfl] at this
   exact this
 refine ⟨?_,fun h=>⟨hiff.1 h,fun m hm p hpp => ?_⟩⟩
 ·cases e:canBe r (w.frm ++ [x]) with
  | true=>exact hiff.2 e
  | false =>
   cases e2:(see (fnd r n) x.toNat w.whn).1 with
   | true=>rw [hiff.1 e2] at e; cases e
   | false=>rfl
 ·show (see (fnd r n) x.toNat w.whn).2 m p=spanOf r (w.frm ++ [x]) m p
  rw [key m hm p hpp]
  unfold see at h ⊢
  rw [h2 h m p]
  by_cases e:m=x.toNat
  ·rw [if_pos ⟨e,Nat.zero_le _,by omega⟩,if_pos e]
  ·rw [if_neg (fun hh=>e hh.1),if_neg e]
theorem step_frm {r:Run} (ok:Ok r) {n:Nat} (hn:n < r.found.length) {w:WayS} (hw:WayOK r w) (hl:w.frm.length=n) :
  (step r n w).map (·.frm)=((fnd r n).frm.map fun m=>w.frm ++ [m]).filter (canBe r) /\ ∀ v,v ∈ step r n w->WayOK r v:=by
 have:∀ L:List Int,(∀ x,x ∈ L->0<=x/\x < r.machines.length)->(L.filterMap (one r n w)).map (·.frm)=(L.map fun m=>w.frm ++ [m]).filter (canBe r) /\ ∀ v,v ∈ L.filterMap (one r n w)->WayOK r v:=by
  intro L
  induction L with
  | nil=>intro _; exact ⟨rfl,fun v h=>by cases h⟩
  | cons x L ih =>
   intro hL
   obtain ⟨h1,h2⟩:=one_ok ok hn hw hl (hL x (List.mem_cons_self ..))
   obtain ⟨i1,i2⟩:=ih fun y hy=>hL y (List.mem_cons_of_mem _ hy)
   cases e:canBe r (w.frm ++ [x]) with
   | true =>
    rw [e] at h1
    have ho:one r n w x=some ⟨w.frm ++ [x],(see (fnd r n) x.toNat w.whn).2⟩:=by rw [one,if_pos h1]
    rw [List.filterMap_cons_some ho,List.map_cons (f:=fun m=>w.frm ++ [m]),List.filter_cons_of_pos e]
    refine ⟨by simp only [List.map_cons,i1],fun v hv => ?_⟩
    rcases List.mem_cons.1 hv with rfl | hv
    ·exact h2 h1
    ·exact i2 v hv
   | false =>
    rw [e] at h1
    have ho:one r n w x=none:=by rw [one,h1]; rfl
    rw [List.filterMap_cons_none ho,List.map_cons,List.filter_cons_of_neg (by rw [e]; exact Bool.false_ne_true)]
    exact ⟨i1,i2⟩
 exact this _ fun x hx=>frm_range ok hn hx
theorem waysTo_link {r:Run} (ok:Ok r):∀ n,n<=r.found.length->(waysTo r n).map (·.frm)=(chFrom r [] n).filter (canBe r) /\ ∀ w,w ∈ waysTo r n->WayOK r w:=by
 intro n
 induction n with
 | zero =>
  intro _
  have hs:∀ m,m < r.machines.length -> ∀ p:Nat,(p:Int) < r.plates->firstWhn r r.machines.length m p=spanOf r [] m p:=by
   intro m hm p hp
   have:=(ok.mach m hm).1
   unfold firstWhn
   rw [if_pos hm,if_pos (by omega)]; rfl
  have hc:canBe r []=true:=by
   rw [canBe_iff ok]
   intro m hm p hp
   have h1:=(ok.mach m hm).1
   have h2:=ok.span m hm p (by omega)
   show (chg (mach r m) p).lo<=(chg (mach r m) p).hi
   omega
  refine ⟨?_,fun w hw => ?_⟩
  ·show [([]:List Int)]=List.filter (canBe r) [[]]
   rw [List.filter_cons_of_pos hc]; rfl
  ·have:w=⟨[],firstWhn r r.machines.length⟩:=by simpa [waysTo] using hw
   subst this
   exact ⟨hc,hs⟩
 | succ n ih =>
  intro hn
  obtain ⟨h1,h2⟩:=ih (by omega)
  have hst:=fun w hw=>step_frm ok (n:=n) (by omega) (h2 w hw) (waysTo_frm n w hw)
  refine ⟨?_,fun v hv => ?_⟩
  ·rw [waysTo,chFrom,List.map_flatMap,filter_flatMap _ _ (canBe r) (canBe r) (fun l hl hf x hx => ?_),← h1,List.flatMap_map]
   ·have:∀ L:List WayS,(∀ w,w ∈ L->w ∈ waysTo r n)->L.flatMap (fun w=>(step r n w).map (·.frm))=L.flatMap fun w=>((fnd r w.frm.length).frm.map fun m=>w.frm ++ [m]).filter (canBe r):=by
     intro L
     induction L with
     | nil=>intro _; rfl
     | cons w L ihL =>
      intro hL
      rw [List.flatMap_cons,List.flatMap_cons,ihL (fun v hv=>hL v (List.mem_cons_of_mem _ hv)),(hst w (hL w (List.mem_cons_self ..))).1,waysTo_frm n w (hL w (List.mem_cons_self ..))]
    exact this _ fun w hw=>hw
   ·obtain ⟨m,_,rfl⟩:=List.mem_map.1 hx
    cases e:canBe r (l ++ [m]) with
    | false=>rfl
    | true=>rw [canBe_snoc ok e] at hf; cases hf
  ·rw [waysTo,List.mem_flatMap] at hv
   obtain ⟨w,hw,hv⟩:=hv
   exact (hst w hw).2 v hv
theorem ways_froms {r:Run} (ok:Ok r):(waysOf r).map (·.frm)=fromsOf r:=by
 rw [waysOf,(waysTo_link ok _ (Nat.le_refl _)).1,fromsOf,choices_from]
theorem way_ok {r:Run} (ok:Ok r) {w:WayS} (h:w ∈ waysOf r):WayOK r w:=(waysTo_link ok _ (Nat.le_refl _)).2 w h
theorem ways_len {r:Run} (ok:Ok r):(waysOf r).length=(fromsOf r).length:=by rw [← ways_froms ok,List.length_map]
theorem open_eq (r:Run) (is:Bool):openE r is=rfE r is:=by
 unfold openE rfE
 split
 ·rename_i h
  rw [ways_len (ok_of (check_zero.1 h))]
 ·rfl
end Go.Sh
namespace Go.Sh
theorem rf_zero {r:Run} {is:Bool} (h:rfE r is=0):Ok r/\is=true:=⟨ok_of (check_zero.1 (rfE_zero h).1),(rfE_zero h).2.1⟩
theorem cnt_all (l:List WayS) (P:WayS->Bool):cnt l P l.length=l.countP P:=by rw [cnt,List.take_length]
end Go.Sh
namespace Go.Sh
theorem far_small {r:Run} (h:far r=false) (hf:fits r):small r:=by
 simp only [far,huge,Bool.or_eq_false_iff,decide_eq_false_iff_not,List.any_eq_false] at h
 obtain ⟨⟨⟨⟨h1,h2⟩,h3⟩,h4⟩,_⟩:=h
 refine ⟨by omega,by omega,fun i => ?_,fun i => ?_⟩
 ·by_cases hi:i < r.machines.length
  ·have:=h3 _ (Go.Ab.getD_mem r.machines default hi)
   simp only [hugeM,decide_eq_true_eq] at this
   show (r.machines.getD i default).changes.length<=_
   omega
  ·rw [mach,Go.Ab.getD_ge _ _ (by omega)]; exact Nat.zero_le _
 ·by_cases hi:i < r.found.length
  ·have:=h4 _ (Go.Ab.getD_mem r.found default hi)
   simp only [hugeF,Bool.or_eq_true,decide_eq_true_eq,not_or] at this
   show (r.found.getD i default).new.length<=_/\(r.found.getD i default).frm.length<=_
   omega
  ·rw [fnd,Go.Ab.getD_ge _ _ (by omega)]; exact ⟨Nat.zero_le _,Nat.zero_le _⟩
end Go.Sh
namespace Go.Ab
open Go Go.RowKit Go.Proofs Go.Sh Go.En
end Go.Ab
namespace Go.Ab
open Go Go.RowKit Go.Proofs Go.Sh Go.En
end Go.Ab
namespace Go.Sh
theorem map_getD {l:List WayS} {i:Nat} (h:i < l.length):(l.map (·.frm)).getD i []=(l.getD i default).frm:=by
 rw [Go.Ab.getD_lt _ _ (by simpa using h),Go.Ab.getD_lt _ _ h,List.getElem_map]
theorem hull_eq {l:List WayS} {F:WayS->Span} {G:List Int->Span} (hl:0 < l.length) (h:∀ w,w ∈ l->F w=G w.frm):hullOf l F=rhull (l.map (·.frm)) G:=by
 have:∀ n,n<=l.length->hullTo l F n=rhullTo (l.map (·.frm)) G n:=by
  intro n
  induction n with
  | zero =>
   intro _
   show F (l.getD 0 default)=G ((l.map (·.frm)).getD 0 [])
   rw [map_getD hl]
   exact h _ (Go.Ab.getD_mem _ default hl)
  | succ n ih =>
   intro hn
   rw [hullTo_succ,rhullTo_succ,ih (by omega),map_getD (by omega),h _ (Go.Ab.getD_mem _ default (by omega))]
 rw [hullOf,rhull,this _ (Nat.le_refl _),List.length_map]
theorem ways_pos {r:Run} {is:Bool} (h:rfE r is=0):0 < (waysOf r).length:=by
 obtain ⟨ok,_⟩:=rf_zero h
 rw [ways_len ok]; exact (rfE_zero h).2.2
theorem when_eq (r:Run) (m p:Int):whenS r m p=whenR r m p:=by
 unfold whenS whenR
 rw [open_eq]
 split
 ·rename_i h0
  obtain ⟨ok,his⟩:=rf_zero h0
  obtain ⟨a1,a2,a3,a4⟩:=whenIs_ok ok his
  rw [← ways_froms ok]
  exact hull_eq (ways_pos h0) fun w hw=>(way_ok ok hw).2 _ a2 _ a4
 ·rfl
theorem count_range:∀ (M:Nat) (K:List Int),K.Nodup->(∀ x,x ∈ K->0<=x/\x < M)->K.length=(List.range M).countP (fun m:Nat=>decide ((m:Int) ∈ K)):=by
 intro M
 induction M with
 | zero =>
  intro K _ h
  cases K with
  | nil=>rfl
  | cons x K=>have:=h x (List.mem_cons_self ..); omega
 | succ M ih =>
  intro K hn h
  have h1:=ih (K.filter (fun x => !decide (x=(M:Int)))) (hn.filter _) (fun x hx=>by
   rw [List.mem_filter] at hx
   have:=h x hx.1
   have h2:x ≠ (M:Int):=by simpa using hx.2
   omega)
  have h2:K.length=(K.filter (fun x => !decide (x=(M:Int)))).length + if (M:Int) ∈ K then 1 else 0:=by
   clear ih h1 h
   induction K with
   | nil=>rfl
   | cons x K ihK =>
    have hnc:=List.nodup_cons.1 hn
    have:=ihK hnc.2
    by_cases e:x=(M:Int)
    ·subst e
     have hf:(K.filter (fun x => !decide (x=(M:Int))))=K:=by
      rw [List.filter_eq_self]
      intro y hy
      simp only [Bool.not_eq_true',decide_eq_false_iff_not]
      intro e; subst e; exact hnc.1 hy
     rw [List.filter_cons_of_neg (by simp),hf,if_pos (List.mem_cons_self ..)]; rfl
    ·rw [List.filter_cons_of_pos (by simpa using e),List.length_cons,List.length_cons,this]
     by_cases hm:(M:Int) ∈ K
     ·rw [if_pos hm,if_pos (List.mem_cons_of_mem _ hm)]
     ·rw [if_neg hm,if_neg (by simp only [List.mem_cons,not_or]; exact ⟨fun e'=>e e'.symm,hm⟩)]
  rw [h2,h1,List.range_succ,List.countP_append,List.countP_singleton]
  congr 1
  ·apply List.countP_congr
   intro m hm
   have hlt:=List.mem_range.1 hm
   simp only [List.mem_filter,Bool.not_eq_true',decide_eq_false_iff_not,decide_eq_true_eq]
   constructor
   ·exact fun hh=>hh.1
   ·exact fun hh=>⟨hh,by omega⟩
  ·by_cases hm:(M:Int) ∈ K <;> simp [hm]
theorem isIn_mem {l:List Int} {x:Int}:isIn l x=true ↔ x ∈ l:=by
 unfold isIn; simp
theorem logTo_keys (l:List Int):∀ n,n<=l.length->(Go.Ab.mkeys (logTo l n)).Nodup /\ ∀ x,x ∈ Go.Ab.mkeys (logTo l n) ↔ x ∈ l.take n:=by
 intro n
 induction n with
 | zero=>intro _; exact ⟨List.nodup_nil,fun x=>by simp [logTo,Go.Ab.mkeys]⟩
 | succ n ih =>
  intro hn
  obtain ⟨h1,h2⟩:=ih (by omega)
  rw [logTo_succ,Go.Ab.mkeys_snoc,Go.Ab.take_succ _ 0 (by omega)]
  split
  ·rename_i hm
   refine ⟨h1,fun x => ?_⟩
   rw [h2,List.mem_append,List.mem_singleton]
   constructor
   ·exact .inl
   ·rintro (h | rfl)
    ·exact h
    ·exact (h2 _).1 hm
  ·rename_i hm
   refine ⟨?_,fun x => ?_⟩
   ·rw [List.nodup_append]
    refine ⟨h1,by simp,?_⟩
    intro a ha b hb e
    rw [List.mem_singleton] at hb
    subst e; subst hb
    exact hm ha
   ·rw [List.mem_append,List.mem_append,h2]
theorem used_eq {l:List Int} {M:Nat} (h:∀ x,x ∈ l->0<=x/\x < M):usedW l=usedTo l M:=by
 obtain ⟨h1,h2⟩:=logTo_keys l l.length (Nat.le_refl _)
 rw [List.take_length] at h2
 unfold usedW usedTo
 rw [count_range M _ h1 (fun x hx=>h x ((h2 x).1 hx))]
 apply List.countP_congr
 intro m _
 rw [decide_eq_true_eq,h2,isIn_mem]
theorem few_eq (r:Run):fewP r=fewR r:=by
 unfold fewP fewR
 rw [open_eq]
 split
 ·rename_i h0
  obtain ⟨ok,_⟩:=rf_zero h0
  have:∀ n,n<=(waysOf r).length->fewPTo r (waysOf r) n=fewTo r (fromsOf r) n:=by
   intro n
   induction n with
   | zero=>intro _; rfl
   | succ n ih =>
    intro hn
    rw [fewPTo_succ,fewTo_succ,ih (by omega),← ways_froms ok,map_getD (by omega)]
    have hm:=Go.Ab.getD_mem (waysOf r) default (show n < (waysOf r).length by omega)
    rw [used_eq (M:=r.machines.length) (fun x hx => ?_)]
    obtain ⟨i,hi,rfl⟩:=List.getElem_of_mem hx
    have:=way_mach ok hm (i:=i) (by rw [← way_frm hm]; exact hi)
    rw [Go.Ab.getD_lt _ _ hi] at this
    exact this
  rw [this _ (Nat.le_refl _),ways_len ok]
 ·rfl
theorem sorted_ext:∀ (l m:List Int),l.Pairwise (· < ·)->m.Pairwise (· < ·)->(∀ x,x ∈ l ↔ x ∈ m)->l=m:=by
 intro l
 induction l with
 | nil =>
  intro m _ _ h
  cases m with
  | nil=>rfl
  | cons y m=>exact absurd ((h y).2 (List.mem_cons_self ..)) (by simp)
 | cons x l ih =>
  intro m hl hm h
  cases m with
  | nil=>exact absurd ((h x).1 (List.mem_cons_self ..)) (by simp)
  | cons y m =>
   obtain ⟨l1,l2⟩:=List.pairwise_cons.1 hl
   obtain ⟨m1,m2⟩:=List.pairwise_cons.1 hm
   have e:x=y:=by
    rcases List.mem_cons.1 ((h x).1 (List.mem_cons_self ..)) with e | e
    ·exact e
    ·rcases List.mem_cons.1 ((h y).2 (List.mem_cons_self ..)) with e2 | e2
     ·exact e2.symm
     ·have:=m1 x e; have:=l1 y e2; omega
   subst e
   rw [ih m l2 m2 (fun z => ?_)]
   constructor
   ·intro hz
    rcases List.mem_cons.1 ((h z).1 (List.mem_cons_of_mem _ hz)) with e | e
    ·have:=l1 z hz; omega
    ·exact e
   ·intro hz
    rcases List.mem_cons.1 ((h z).2 (List.mem_cons_of_mem _ hz)) with e | e
    ·have:=m1 z hz; omega
    ·exact e
theorem get_bang (zs:List Int) (j:Nat):zs.toArray[j]! = zs.getD j 0:=by simp [List.getD]
theorem compact_sorted {zs:List Int} (h:zs.Pairwise (· <= ·)):(compactI zs).Pairwise (· < ·) /\ ∀ x,x ∈ compactI zs ↔ x ∈ zs:=by
 have hle:∀ i j,i<=j->j < zs.length->zs.getD i 0<=zs.getD j 0:=by
  intro i j hij hj
  by_cases e:i=j
  ·subst e; exact Int.le_refl _
  ·rw [Go.Ab.getD_lt _ _ hj,Go.Ab.getD_lt _ _ (by omega)]
   exact List.pairwise_iff_getElem.1 h i j (by omega) hj (by omega)
 have key:∀ m,m<=zs.length->(Go.Lib.compactUpTo zs.toArray m).Pairwise (· < ·) /\ ∀ x,x ∈ Go.Lib.compactUpTo zs.toArray m ↔ ∃ j,j < m/\zs.getD j 0=x:=by
  intro m
  induction m with
  | zero=>intro _; exact ⟨List.Pairwise.nil,fun x=>by simp [Go.Lib.compactUpTo]⟩
  | succ m ih =>
   intro hm
   obtain ⟨h1,h2⟩:=ih (by omega)
   rw [Go.Lib.compactUpTo_succ]
   by_cases hk:Go.Lib.keeps zs.toArray m=true
   ·rw [if_pos hk,get_bang]
    refine ⟨?_,fun x => ?_⟩
    ·rw [List.pairwise_append]
     refine ⟨h1,List.pairwise_singleton _ _,fun a ha b hb => ?_⟩
     rw [List.mem_singleton] at hb
     subst hb
     obtain ⟨j,hj,rfl⟩:=(h2 a).1 ha
     have a1:=hle j (m - 1) (by omega) (by omega)
     have a2:=hle (m - 1) m (by omega) (by omega)
     have a3:zs.getD m 0 ≠ zs.getD (m - 1) 0:=by
      unfold Go.Lib.keeps at hk
      rw [get_bang,get_bang] at hk
      intro e
      rw [e] at hk
      have:m ≠ 0:=by omega
      simp [this] at hk
     omega
    ·rw [List.mem_append,List.mem_singleton,h2]
     constructor
     ·rintro (⟨j,hj,e⟩ | e)
      ·exact ⟨j,by omega,e⟩
      ·exact ⟨m,by omega,e.symm⟩
     ·rintro ⟨j,hj,e⟩
      by_cases ej:j=m
      ·subst ej; exact .inr e.symm
      ·exact .inl ⟨j,by omega,e⟩
   ·rw [if_neg hk,List.append_nil]
    refine ⟨h1,fun x => ?_⟩
    rw [h2]
    have hm0:m ≠ 0:=by
     intro e; subst e
     exact hk (Go.Lib.keeps_lt_one _ 0 (by omega))
    have he:zs.getD m 0=zs.getD (m - 1) 0:=by
     apply Classical.byContradiction
     intro hne
     apply hk
     unfold Go.Lib.keeps
     rw [get_bang,get_bang]
     exact decide_eq_true (.inr hne)
    constructor
    ·rintro ⟨j,hj,e⟩; exact ⟨j,by omega,e⟩
    ·rintro ⟨j,hj,e⟩
     by_cases ej:j=m
     ·subst ej; exact ⟨j - 1,by omega,by rw [← he]; exact e⟩
     ·exact ⟨j,by omega,e⟩
 obtain ⟨h1,h2⟩:=key zs.length (Nat.le_refl _)
 refine ⟨h1,fun x => ?_⟩
 show x ∈ Go.Lib.compactUpTo zs.toArray zs.length ↔ _
 rw [h2]
 constructor
 ·rintro ⟨j,hj,rfl⟩; exact Go.Ab.getD_mem _ 0 hj
 ·intro hx
  obtain ⟨j,hj,e⟩:=List.getElem_of_mem hx
  exact ⟨j,hj,by rw [Go.Ab.getD_lt _ _ hj]; exact e⟩
theorem sortI_sorted (l:List Int):(sortI l).Pairwise (· <= ·):=by
 have:=List.pairwise_mergeSort (le:=fun x y:Int=>decide (x<=y)) (fun a b c h1 h2=>by simp only [decide_eq_true_eq] at *; omega) (fun a b=>by simp only [Bool.or_eq_true,decide_eq_true_eq]; omega) l
 simpa [sortI] using this
theorem sortI_mem {l:List Int} {x:Int}:x ∈ sortI l ↔ x ∈ l:=(List.mergeSort_perm l _).mem_iff
theorem where_ways {r:Run} (ok:Ok r) {f:Nat} (hf:f < r.found.length):whereP (waysOf r) f=whereOf r (fromsOf r) f:=by
 obtain ⟨h1,h2⟩:=compact_sorted (sortI_sorted (wf (waysOf r) f))
 refine sorted_ext _ _ h1 ?_ fun x => ?_
 ·unfold whereOf whTo
  rw [List.pairwise_map]
  exact ((List.pairwise_lt_range).filter _).imp (fun h=>by omega)
 ·show x ∈ compactI (sortI (wf (waysOf r) f)) ↔ _
  rw [h2,sortI_mem]
  unfold whereOf whTo wf anyF
  rw [List.take_length,← ways_froms ok]
  simp only [List.mem_map,List.mem_filter,List.mem_range,List.any_eq_true,decide_eq_true_eq]
  constructor
  ·rintro ⟨w,hw,rfl⟩
   have:=way_mach ok hw hf
   refine ⟨(w.frm.getD f 0).toNat,⟨by omega,w.frm,⟨w,hw,rfl⟩,by omega⟩,by omega⟩
  ·rintro ⟨m,⟨_,y,⟨w,hw,rfl⟩,e⟩,rfl⟩
   exact ⟨w,hw,e⟩
theorem where_eq (r:Run) (f:Int):whereS r f=whereR r f:=by
 unfold whereS whereR
 rw [open_eq]
 split
 ·rename_i h0
  obtain ⟨ok,his⟩:=rf_zero h0
  simp only [isFound,Go.Sh.within_iff] at his
  exact where_ways ok (by omega)
 ·rfl
end Go.Sh
namespace Go.Sh
theorem sumTo_congr {r:Run} {f g:Nat->Span}:∀ n,n<=r.machines.length->(∀ m,m < n->f m=g m)->sumTo r f n=sumTo r g n:=by
 intro n
 induction n with
 | zero=>intro _ _; rfl
 | succ n ih =>
  intro h1 h2
  rw [sumTo_succ,sumTo_succ,ih (by omega) (fun m hm=>h2 m (by omega)),h2 n (by omega)]
theorem old_eq (r:Run) (p:Int):oldS r p=oldR r p:=by
 unfold oldS oldR
 rw [open_eq]
 split
 ·rename_i h0
  obtain ⟨ok,his⟩:=rf_zero h0
  obtain ⟨a1,a2,_⟩:=plateIs_ok ok his
  rw [← ways_froms ok]
  exact hull_eq (ways_pos h0) fun w hw=>sumTo_congr _ (Nat.le_refl _) fun m hm=>(way_ok ok hw).2 m hm p.toNat (by omega)
 ·rfl
theorem spread_minutes {g h:Nat->Span} {n:Nat} (hn:1<=n/\n<=3) (he:∀ p,p < n->g p=h p) (hs:∀ p,p < n->(h p).lo<=(h p).hi):spread g n=minutes h n:=by
 have h0:=he 0 (by omega)
 have s0:=hs 0 (by omega)
 have:n=1 ∨ n=2 ∨ n=3:=by omega
 rcases this with rfl | rfl | rfl
 ·simp only [spread,minutes,sprTo,minTo,minIn,sprIn,List.range_succ,List.range_zero,List.nil_append,List.foldl_cons,List.foldl_nil,if_true,h0]
  congr 1 <;> omega
 ·have h1:=he 1 (by omega)
  have s1:=hs 1 (by omega)
  simp only [spread,minutes,sprTo,minTo,minIn,sprIn,List.range_succ,List.range_zero,List.nil_append,List.cons_append,List.foldl_cons,List.foldl_nil,if_true,h0,h1]
  simp only [show ¬ (0:Nat)=1 by omega,show ¬ (1:Nat)=0 by omega,if_false]
  congr 1 <;> omega
 ·have h1:=he 1 (by omega)
  have s1:=hs 1 (by omega)
  have h2:=he 2 (by omega)
  have s2:=hs 2 (by omega)
  simp only [spread,minutes,sprTo,minTo,minIn,sprIn,List.range_succ,List.range_zero,List.nil_append,List.cons_append,List.foldl_cons,List.foldl_nil,if_true,h0,h1,h2]
  simp only [show ¬ (0:Nat)=1 by omega,show ¬ (1:Nat)=0 by omega,show ¬ (0:Nat)=2 by omega,show ¬ (2:Nat)=0 by omega,show ¬ (1:Nat)=2 by omega,show ¬ (2:Nat)=1 by omega,if_false]
  congr 1 <;> omega
theorem way_spread {r:Run} (ok:Ok r) {w:WayS} (hw:w ∈ waysOf r) {m:Nat} (hm:m < r.machines.length):spread (w.whn m) r.plates.toNat=minutes (spanOf r w.frm m) r.plates.toNat:=by
 have hp:=ok.plates
 have h:=way_ok ok hw
 exact spread_minutes (by omega) (fun p hlt=>h.2 m hm p (by omega)) (fun p hlt=>(canBe_iff ok).1 h.1 m hm p (by omega))
theorem way_mix {r:Run} (ok:Ok r) {w:WayS} (hw:w ∈ waysOf r):mixF r w=mixL r w.frm:=sumTo_congr _ (Nat.le_refl _) fun _ hm=>way_spread ok hw hm
theorem minutes_le {h:Nat->Span} {n:Nat} (hn:1<=n/\n<=3) (hs:∀ p,p < n->(h p).lo<=(h p).hi):(minutes h n).lo<=(minutes h n).hi:=by
 have s0:=hs 0 (by omega)
 have:n=1 ∨ n=2 ∨ n=3:=by omega
 rcases this with rfl | rfl | rfl
 ·simp only [minutes,minTo,minIn,List.range_succ,List.range_zero,List.nil_append,List.foldl_cons,List.foldl_nil,if_true]
  omega
 ·have s1:=hs 1 (by omega)
  simp only [minutes,minTo,minIn,List.range_succ,List.range_zero,List.nil_append,List.cons_append,List.foldl_cons,List.foldl_nil,if_true]
  simp only [show ¬ (0:Nat)=1 by omega,show ¬ (1:Nat)=0 by omega,if_false]
  omega
 ·have s1:=hs 1 (by omega)
  have s2:=hs 2 (by omega)
  simp only [minutes,minTo,minIn,List.range_succ,List.range_zero,List.nil_append,List.cons_append,List.foldl_cons,List.foldl_nil,if_true]
  simp only [show ¬ (0:Nat)=1 by omega,show ¬ (1:Nat)=0 by omega,show ¬ (0:Nat)=2 by omega,show ¬ (2:Nat)=0 by omega,show ¬ (1:Nat)=2 by omega,show ¬ (2:Nat)=1 by omega,if_false]
  omega
theorem mixed_eq (r:Run) (m:Int):mixedS r m=mixedR r m:=by
 unfold mixedS mixedR
 rw [open_eq]
 split
 ·rename_i h0
  obtain ⟨ok,his⟩:=rf_zero h0
  have hm:=machIs_ok his
  have hpl:=ok.plates
  have hw:∀ w,w ∈ waysOf r->spread (w.whn m.toNat) r.plates.toNat=minutes (spanOf r w.frm m.toNat) r.plates.toNat/\(minutes (spanOf r w.frm m.toNat) r.plates.toNat).lo<=(minutes (spanOf r w.frm m.toNat) r.plates.toNat).hi:=by
   intro w h
   refine ⟨way_spread ok h (by omega),minutes_le (by omega) fun p hp => ?_⟩
   exact (canBe_iff ok).1 (way_ok ok h).1 _ (by omega) p (by omega)
  have hsu:suTo r (fromsOf r) m.toNat (fromsOf r).length=(waysOf r).all (mxSo r m.toNat):=by
   rw [suTo,List.take_length,← ways_froms ok,List.all_map,Bool.eq_iff_iff,List.all_eq_true,List.all_eq_true]
   constructor
   ·intro h w h1; have:=h w h1; rw [mxSo,(hw w h1).1]; exact this
   ·intro h w h1; have:=h w h1; rw [mxSo,(hw w h1).1] at this; exact this
  have hnv:nvTo r (fromsOf r) m.toNat (fromsOf r).length=(waysOf r).all (mxNot r m.toNat):=by
   rw [nvTo,List.take_length,← ways_froms ok,List.all_map,Bool.eq_iff_iff,List.all_eq_true,List.all_eq_true]
   constructor
   ·intro h w h1
    have h2:=h w h1
    have h3:=(hw w h1).2
    simp only [Function.comp_apply,decide_eq_true_eq] at h2
    rw [mxNot,mxSo,(hw w h1).1]
    simp only [Bool.and_eq_true,Bool.not_eq_true',decide_eq_true_eq,decide_eq_false_iff_not]
    omega
   ·intro h w h1
    have h2:=h w h1
    rw [mxNot,mxSo,(hw w h1).1] at h2
    simp only [Bool.and_eq_true] at h2
    exact h2.2
  rw [cnt_all,cnt_all,hsu,hnv]
  unfold known3
  by_cases c1:(waysOf r).countP (mxSo r m.toNat)=(waysOf r).length
  ·rw [if_pos (by rw [c1]),if_pos (by rw [List.all_eq_true]; exact List.countP_eq_length.1 c1)]
  ·rw [if_neg (by omega),if_neg (fun h=>c1 (List.countP_eq_length.2 (List.all_eq_true.1 h)))]
   by_cases c2:(waysOf r).countP (mxNot r m.toNat)=(waysOf r).length
   ·rw [if_pos (by rw [c2]),if_pos (by rw [List.all_eq_true]; exact List.countP_eq_length.1 c2)]
   ·rw [if_neg (by omega),if_neg (fun h=>c2 (List.countP_eq_length.2 (List.all_eq_true.1 h)))]
 ·rfl
end Go.Sh
namespace Go.Sh
def rated (t:Int) (m:Mach):Mach:=⟨m.changes,Go.Ab.wr (m.rate * t)⟩
def ratedR (r:Run) (t:Int):Run:=⟨r.plates,r.last,r.machines.map (rated t),r.found⟩
theorem spanTo_narrow (r:Run) (l:List Int) (m p:Nat):∀ n,(chg (mach r m) p).lo<=(spanTo r l m p n).lo/\(spanTo r l m p n).hi<=(chg (mach r m) p).hi:=by
 intro n
 induction n with
 | zero=>exact ⟨Int.le_refl _,Int.le_refl _⟩
 | succ n ih =>
  rw [spanTo_succ]
  unfold spanStep
  split
  ·split
   ·exact ⟨ih.1,Int.le_trans (Int.min_le_left _ _) ih.2⟩
   ·split
    ·exact ⟨Int.le_trans ih.1 (Int.le_max_left _ _),ih.2⟩
    ·exact ih
  ·exact ih
def hb (s:Span):Prop:=0<=s.lo/\s.lo<=s.hi/\s.hi<=30
theorem way_hb {r:Run} (ok:Ok r) {w:WayS} (hw:w ∈ waysOf r) {m p:Nat} (hm:m < r.machines.length) (hp:(p:Int) < r.plates):hb (w.whn m p):=by
 have h:=way_ok ok hw
 have h1:=ok.mach m hm
 have h2:=ok.span m hm p (by omega)
 have h3:=spanTo_narrow r w.frm m p w.frm.length
 have h4:=(canBe_iff ok).1 h.1 m hm p hp
 have h5:=ok.last
 rw [h.2 m hm p hp]
 unfold spanOf at h4 ⊢
 exact ⟨by omega,h4,by omega⟩
theorem sum_hb {r:Run} (ok:Ok r) {f:Nat->Span} (hf:∀ m,m < r.machines.length->hb (f m)):∀ n,n<=r.machines.length->0<=(sumTo r f n).lo/\(sumTo r f n).lo<=(sumTo r f n).hi/\(sumTo r f n).hi<=270 * n:=by
 intro n
 induction n with
 | zero=>intro _; simp [sumTo]
 | succ n ih =>
  intro hn
  have h1:=ih (by omega)
  have h2:=(ok.mach n (by omega)).2
  have h3:=hf n (by omega)
  rw [sumTo_succ]
  have a1:=Int.mul_nonneg h2.1 h3.1
  have a2:=Int.mul_le_mul_of_nonneg_left h3.2.1 h2.1
  have a3:(mach r n).rate * (f n).hi<=9 * 30:=Int.mul_le_mul h2.2 h3.2.2 (Int.le_trans h3.1 h3.2.1) (by decide)
  simp only
  omega
theorem hull_in {l:List WayS} {F:WayS->Span} {k:Int} (hl:0 < l.length) (h:∀ w,w ∈ l->0<=(F w).lo/\(F w).lo<=(F w).hi/\(F w).hi<=k):0<=(hullOf l F).lo/\(hullOf l F).lo<=(hullOf l F).hi/\(hullOf l F).hi<=k:=by
 have:∀ n,n<=l.length->0<=(hullTo l F n).lo/\(hullTo l F n).lo<=(hullTo l F n).hi/\(hullTo l F n).hi<=k:=by
  intro n
  induction n with
  | zero=>intro _; exact h _ (Go.Ab.getD_mem _ default hl)
  | succ n ih =>
   intro hn
   have h1:=ih (by omega)
   have h2:=h _ (Go.Ab.getD_mem l default (show n < l.length by omega))
   rw [hullTo_succ]
   simp only [hull2]
   omega
 exact this _ (Nat.le_refl _)
theorem minutes_hb {h:Nat->Span} {n:Nat} (hn:1<=n/\n<=3) (hs:∀ p,p < n->hb (h p)):hb (minutes h n):=by
 have hle:=minutes_le hn fun p hp=>(hs p hp).2.1
 have s0:=hs 0 (by omega)
 have:n=1 ∨ n=2 ∨ n=3:=by omega
 unfold hb at *
 rcases this with rfl | rfl | rfl
 ·refine ⟨?_,hle,?_⟩ <;> (simp only [minutes,minTo,minIn,List.range_succ,List.range_zero,List.nil_append,List.foldl_cons,List.foldl_nil,if_true]; omega)
 ·have s1:=hs 1 (by omega)
  refine ⟨?_,hle,?_⟩ <;> (simp only [minutes,minTo,minIn,List.range_succ,List.range_zero,List.nil_append,List.cons_append,List.foldl_cons,List.foldl_nil,if_true]; simp only [show ¬ (0:Nat)=1 by omega,show ¬ (1:Nat)=0 by omega,if_false]; omega)
 ·have s1:=hs 1 (by omega)
  have s2:=hs 2 (by omega)
  refine ⟨?_,hle,?_⟩ <;> (simp only [minutes,minTo,minIn,List.range_succ,List.range_zero,List.nil_append,List.cons_append,List.foldl_cons,List.foldl_nil,if_true]; simp only [show ¬ (0:Nat)=1 by omega,show ¬ (1:Nat)=0 by omega,show ¬ (0:Nat)=2 by omega,show ¬ (2:Nat)=0 by omega,show ¬ (1:Nat)=2 by omega,show ¬ (2:Nat)=1 by omega,if_false]; omega)
structure RatesF (r:Run) (t p:Int):Prop where
 ok:Ok r
 tt:0<=t/\t<=9
 e1:openE r (isPlate r p)=0
 e2:openE (ratedR r t) (isPlate (ratedR r t) p)=0
 e3:openE r true=0
 e4:openE (ratedR r t) true=0
 old:0<=(oldS r p).lo/\(oldS r p).lo<=(oldS r p).hi/\(oldS r p).hi<=810
 mix:0<=(mixesS r).lo/\(mixesS r).lo<=(mixesS r).hi/\(mixesS r).hi<=810
 old2:oldS (ratedR r t) p=⟨(oldS r p).lo * t,(oldS r p).hi * t⟩
 mix2:mixesS (ratedR r t)=⟨(mixesS r).lo * t,(mixesS r).hi * t⟩
end Go.Sh
namespace Go.Sh
theorem spanTo_lo (r:Run) (l:List Int) (m p:Nat) (n:Int):∀ k,(spanTo r l m p k).lo<=n ↔ (chg (mach r m) p).lo<=n /\ ∀ i,i < k->l.getD i 0=(m:Int)->(fnd r i).new.getD p 0=0->(fnd r i).minute + 1<=n:=by
 intro k
 induction k with
 | zero=>exact ⟨fun h=>⟨h,fun i hi=>by omega⟩,fun h=>h.1⟩
 | succ k ih =>
  rw [spanTo_succ]
  have step:(spanStep r l m p (spanTo r l m p k) k).lo<=n ↔ (spanTo r l m p k).lo<=n/\(l.getD k 0=(m:Int)->(fnd r k).new.getD p 0=0->(fnd r k).minute + 1<=n):=by
   unfold spanStep
   by_cases h1:l.getD k 0=(m:Int)
   ·rw [if_pos h1]
    by_cases h2:(fnd r k).new.getD p 0=1
    ·rw [if_pos h2]
     exact ⟨fun h=>⟨h,fun _ h3=>by omega⟩,fun h=>h.1⟩
    ·rw [if_neg h2]
     by_cases h3:(fnd r k).new.getD p 0=0
     ·rw [if_pos h3]
      show max _ _<=n ↔ _
      rw [Int.max_le]
      exact ⟨fun h=>⟨h.1,fun _ _=>h.2⟩,fun h=>⟨h.1,h.2 h1 h3⟩⟩
     ·rw [if_neg h3]
      exact ⟨fun h=>⟨h,fun _ h4=>absurd h4 h3⟩,fun h=>h.1⟩
   ·rw [if_neg h1]
    exact ⟨fun h=>⟨h,fun h2=>absurd h2 h1⟩,fun h=>h.1⟩
  rw [step,ih]
  constructor
  ·rintro ⟨⟨h1,h2⟩,h3⟩
   refine ⟨h1,fun i hi => ?_⟩
   by_cases e:i=k
   ·subst e; exact h3
   ·exact h2 i (by omega)
  ·rintro ⟨h1,h2⟩
   exact ⟨⟨h1,fun i hi=>h2 i (by omega)⟩,h2 k (by omega)⟩
theorem spanTo_hi (r:Run) (l:List Int) (m p:Nat) (n:Int):∀ k,n<=(spanTo r l m p k).hi ↔ n<=(chg (mach r m) p).hi /\ ∀ i,i < k->l.getD i 0=(m:Int)->(fnd r i).new.getD p 0=1->n<=(fnd r i).minute:=by
 intro k
 induction k with
 | zero=>exact ⟨fun h=>⟨h,fun i hi=>by omega⟩,fun h=>h.1⟩
 | succ k ih =>
  rw [spanTo_succ]
  have step:n<=(spanStep r l m p (spanTo r l m p k) k).hi ↔ n<=(spanTo r l m p k).hi/\(l.getD k 0=(m:Int)->(fnd r k).new.getD p 0=1->n<=(fnd r k).minute):=by
   unfold spanStep
   by_cases h1:l.getD k 0=(m:Int)
   ·rw [if_pos h1]
    by_cases h2:(fnd r k).new.getD p 0=1
    ·rw [if_pos h2]
     show n<=min _ _ ↔ _
     rw [Int.le_min]
     exact ⟨fun h=>⟨h.1,fun _ _=>h.2⟩,fun h=>⟨h.1,h.2 h1 h2⟩⟩
    ·rw [if_neg h2]
     by_cases h3:(fnd r k).new.getD p 0=0
     ·rw [if_pos h3]
      exact ⟨fun h=>⟨h,fun _ h4=>absurd h4 h2⟩,fun h=>h.1⟩
     ·rw [if_neg h3]
      exact ⟨fun h=>⟨h,fun _ h4=>absurd h4 h2⟩,fun h=>h.1⟩
   ·rw [if_neg h1]
    exact ⟨fun h=>⟨h,fun h2=>absurd h2 h1⟩,fun h=>h.1⟩
  rw [step,ih]
  constructor
  ·rintro ⟨⟨h1,h2⟩,h3⟩
   refine ⟨h1,fun i hi => ?_⟩
   by_cases e:i=k
   ·subst e; exact h3
   ·exact h2 i (by omega)
  ·rintro ⟨h1,h2⟩
   exact ⟨⟨h1,fun i hi=>h2 i (by omega)⟩,h2 k (by omega)⟩
theorem spanOf_lo {r:Run} {l:List Int} {m p:Nat} {n:Int}:(spanOf r l m p).lo<=n ↔ (chg (mach r m) p).lo<=n /\ ∀ i,i < l.length->l.getD i 0=(m:Int)->(fnd r i).new.getD p 0=0->(fnd r i).minute + 1<=n:=spanTo_lo r l m p n l.length
theorem spanOf_hi {r:Run} {l:List Int} {m p:Nat} {n:Int}:n<=(spanOf r l m p).hi ↔ n<=(chg (mach r m) p).hi /\ ∀ i,i < l.length->l.getD i 0=(m:Int)->(fnd r i).new.getD p 0=1->n<=(fnd r i).minute:=spanTo_hi r l m p n l.length
theorem mem_chFrom {r:Run}:∀ k (l:List Int),l ∈ chFrom r [] k ↔ l.length=k /\ ∀ i,i < k->l.getD i 0 ∈ (fnd r i).frm:=by
 intro k
 induction k with
 | zero =>
  intro l
  simp only [chFrom,List.mem_singleton]
  constructor
  ·rintro rfl; exact ⟨rfl,fun i hi=>by omega⟩
  ·rintro ⟨h,_⟩; exact List.length_eq_zero_iff.1 h
 | succ k ih =>
  intro l
  simp only [chFrom,List.mem_flatMap,List.mem_map]
  constructor
  ·rintro ⟨a,ha,m,hm,rfl⟩
   obtain ⟨h1,h2⟩:=(ih a).1 ha
   refine ⟨by simp [h1],fun i hi => ?_⟩
   rw [Go.Ab.getD_append]
   split
   ·exact h2 i (by omega)
   ·have:i=a.length:=by omega
    subst this
    rw [Nat.sub_self]; exact hm
  ·rintro ⟨h1,h2⟩
   rcases List.eq_nil_or_concat l with rfl | ⟨a,x,rfl⟩
   ·simp at h1
   ·rw [List.concat_eq_append] at h1 h2 ⊢
    have hl:a.length=k:=by simpa using h1
    refine ⟨a,(ih a).2 ⟨hl,fun i hi => ?_⟩,x,?_,rfl⟩
    ·have:=h2 i (by omega)
     rwa [Go.Ab.getD_append,if_pos (by omega)] at this
    ·have:=h2 k (by omega)
     rw [Go.Ab.getD_append,if_neg (by omega),hl,Nat.sub_self] at this
     rw [hl]; exact this
theorem mem_froms {r:Run} {l:List Int}:l ∈ fromsOf r ↔ (l.length=r.found.length /\ ∀ i,i < r.found.length->l.getD i 0 ∈ (fnd r i).frm)/\canBe r l=true:=by
 rw [fromsOf,List.mem_filter,choices_from,mem_chFrom]
theorem froms_in {r:Run} (ok:Ok r) {l:List Int} (h:l ∈ fromsOf r) {i:Nat} (hi:i < r.found.length):0<=l.getD i 0/\l.getD i 0 < r.machines.length:=frm_range ok hi (fromsOf_frm h hi)
theorem froms_le {r:Run} (ok:Ok r) {l:List Int} (h:l ∈ fromsOf r) {m p:Nat} (hm:m < r.machines.length) (hp:(p:Int) < r.plates):(spanOf r l m p).lo<=(spanOf r l m p).hi:=(canBe_iff ok).1 (mem_froms.1 h).2 m hm p hp
theorem spanOf_narrow (r:Run) (l:List Int) (m p:Nat):(chg (mach r m) p).lo<=(spanOf r l m p).lo/\(spanOf r l m p).hi<=(chg (mach r m) p).hi :=
 ⟨(spanOf_lo.1 (Int.le_refl _)).1,(spanOf_hi.1 (Int.le_refl _)).1⟩
theorem rhull_spec {l:List (List Int)} (F:List Int->Span) (h:0 < l.length):(∀ x,x ∈ l->(rhull l F).lo<=(F x).lo/\(F x).hi<=(rhull l F).hi)/\(∃ x,x ∈ l/\(rhull l F).lo=(F x).lo) /\ ∃ x,x ∈ l/\(rhull l F).hi=(F x).hi:=by
 have:∀ n,n<=l.length->(∀ i,i < n->(rhullTo l F n).lo<=(F (l.getD i [])).lo/\(F (l.getD i [])).hi<=(rhullTo l F n).hi)/\(∃ x,x ∈ l/\(rhullTo l F n).lo=(F x).lo) /\ ∃ x,x ∈ l/\(rhullTo l F n).hi=(F x).hi:=by
  intro n
  induction n with
  | zero=>intro _; exact ⟨fun i hi=>by omega,⟨_,Go.Ab.getD_mem l [] h,rfl⟩,⟨_,Go.Ab.getD_mem l [] h,rfl⟩⟩
  | succ n ih =>
   intro hn
   obtain ⟨h1,⟨x,hx,ex⟩,y,hy,ey⟩:=ih (by omega)
   have hm:=Go.Ab.getD_mem l [] (show n < l.length by omega)
   rw [rhullTo_succ]
   simp only [hull2]
   refine ⟨fun i hi => ?_,?_,?_⟩
   ·by_cases e:i=n
    ·subst e; omega
    ·have:=h1 i (by omega); omega
   ·by_cases c:(rhullTo l F n).lo<=(F (l.getD n [])).lo
    ·exact ⟨x,hx,by omega⟩
    ·exact ⟨_,hm,by omega⟩
   ·by_cases c:(F (l.getD n [])).hi<=(rhullTo l F n).hi
    ·exact ⟨y,hy,by omega⟩
    ·exact ⟨_,hm,by omega⟩
 obtain ⟨h1,h2,h3⟩:=this _ (Nat.le_refl _)
 refine ⟨fun x hx => ?_,h2,h3⟩
 obtain ⟨i,hi,rfl⟩:=List.getElem_of_mem hx
 have:=h1 i hi
 rw [Go.Ab.getD_lt _ _ hi] at this
 exact this
structure One (r:Run):Prop where
 ok:Ok r
 zero:∀ is,is=true->rfE r is=0
 pos:0 < (fromsOf r).length
theorem one_ex {r:Run} (h:One r):∃ x,x ∈ fromsOf r:=List.exists_mem_of_length_pos h.pos
theorem one_of {r:Run} (ok:okRun r=true) {x:List Int} (h:x ∈ fromsOf r):One r:=by
 have hp:=List.length_pos_of_mem h
 exact ⟨ok_of ok,fun is hi=>by rw [rfE,if_pos (check_zero.2 ok),if_pos hi,if_neg (by omega)],hp⟩
theorem one_known {r:Run} (h:known6 r=true):One r:=by
 simp only [known6,ready,Bool.and_eq_true,decide_eq_true_eq] at h
 have ok:=check_zero.1 h.1.2
 have:0 < (fromsOf r).length:=by have:=h.2; simp only [isOne,decide_eq_true_eq] at this; omega
 obtain ⟨x,hx⟩:=List.exists_mem_of_length_pos this
 exact one_of ok hx
theorem ready_ok {r:Run} (h:ready r=true):okRun r=true:=by
 simp only [ready,Bool.and_eq_true,decide_eq_true_eq] at h
 exact check_zero.1 h.2
theorem when_val {r:Run} (h:One r) {m p:Int} (hi:whenIs r m p=true):whenS r m p=rhull (fromsOf r) (fun l=>spanOf r l m.toNat p.toNat)/\openE r (whenIs r m p)=0:=by
 rw [when_eq,open_eq,whenR,h.zero _ hi]; exact ⟨rfl,rfl⟩
theorem few_val {r:Run} (h:One r):fewP r=fewTo r (fromsOf r) (fromsOf r).length/\openE r true=0:=by
 rw [few_eq,open_eq,fewR,h.zero _ rfl]; exact ⟨rfl,rfl⟩
theorem few_spec {r:Run} (h:One r):(∀ x,x ∈ fromsOf r->fewP r<=usedTo x r.machines.length)/\0<=fewP r/\fewP r<=r.machines.length /\ ∃ x,x ∈ fromsOf r/\fewP r=usedTo x r.machines.length:=by
 rw [(few_val h).1]
 have hu:∀ x,(usedTo x r.machines.length:Int)<=r.machines.length:=fun x=>by have:=usedTo_le x r.machines.length; omega
 have:∀ n,n<=(fromsOf r).length->(∀ i,i < n->fewTo r (fromsOf r) n<=usedTo ((fromsOf r).getD i []) r.machines.length)/\0<=fewTo r (fromsOf r) n/\fewTo r (fromsOf r) n<=r.machines.length/\(n=0 ∨ ∃ x,x ∈ fromsOf r/\fewTo r (fromsOf r) n=usedTo x r.machines.length):=by
  intro n
  induction n with
  | zero=>intro _; exact ⟨fun i hi=>by omega,Int.natCast_nonneg _,Int.le_refl _,.inl rfl⟩
  | succ n ih =>
   intro hn
   obtain ⟨h1,h2,h3,h4⟩:=ih (by omega)
   have hm:=Go.Ab.getD_mem (fromsOf r) [] (show n < (fromsOf r).length by omega)
   have hb:=hu ((fromsOf r).getD n [])
   rw [fewTo_succ]
   refine ⟨fun i hi => ?_,by omega,by omega,.inr ?_⟩
   ·by_cases e:i=n
    ·subst e; omega
    ·have:=h1 i (by omega); omega
   ·by_cases c:fewTo r (fromsOf r) n < usedTo ((fromsOf r).getD n []) r.machines.length
    ·rcases h4 with h4 | ⟨x,hx,e⟩
     ·subst h4
      have:fewTo r (fromsOf r) 0=r.machines.length:=rfl
      omega
     ·exact ⟨x,hx,by omega⟩
    ·exact ⟨_,hm,by omega⟩
 obtain ⟨h1,h2,h3,h4⟩:=this _ (Nat.le_refl _)
 have hp:=h.pos
 refine ⟨fun x hx => ?_,h2,h3,?_⟩
 ·obtain ⟨i,hi,rfl⟩:=List.getElem_of_mem hx
  have:=h1 i hi
  rw [Go.Ab.getD_lt _ _ hi] at this
  exact this
 ·rcases h4 with h4 | h4
  ·omega
  ·exact h4
theorem usedTo_mono {x y:List Int} {n:Nat} (h:∀ v,v ∈ x->v ∈ y):usedTo x n<=usedTo y n:=by
 unfold usedTo
 refine List.countP_mono_left fun m _ hm => ?_
 exact isIn_mem.2 (h _ (isIn_mem.1 hm))
end Go.Sh
namespace Go.Sh
structure Tld where
 when:List Span
 old:List Span
 whr:List (List Int)
 mixed:List Int
 mixes:Span
 fewest:Int
 deriving DecidableEq,Inhabited
def wAt (r:Run) (i:Nat):Span:=whenS r ((i / r.plates.toNat:Nat):Int) ((i % r.plates.toNat:Nat):Int)
def tWhen (r:Run) (n:Nat):List Span:=(List.range n).map (wAt r)
def tOld (r:Run) (n:Nat):List Span:=(List.range n).map fun p:Nat=>oldS r (p:Int)
def tWhr (r:Run) (n:Nat):List (List Int):=(List.range n).map fun i:Nat=>whereS r (i:Int)
def tMix (r:Run) (n:Nat):List Int:=(List.range n).map fun m:Nat=>mixedS r (m:Int)
def toldOf (r:Run):Tld:=⟨tWhen r (r.machines.length * r.plates.toNat),tOld r r.plates.toNat,tWhr r r.found.length,tMix r r.machines.length,mixesS r,fewP r⟩
theorem mapRange_get {α:Type} (f:Nat->α) (d:α) {n i:Nat} (h:i < n):((List.range n).map f).getD i d=f i:=by
 rw [Go.Ab.getD_lt _ _ (by simpa using h)]; simp
theorem tWhen_get (r:Run) {n i:Nat} (h:i < n):(tWhen r n).getD i default=wAt r i:=mapRange_get _ _ h
theorem tOld_get (r:Run) {n i:Nat} (h:i < n):(tOld r n).getD i default=oldS r (i:Int):=mapRange_get _ _ h
theorem tWhr_get (r:Run) {n i:Nat} (h:i < n):(tWhr r n).getD i []=whereS r (i:Int):=mapRange_get _ _ h
theorem tMix_get (r:Run) {n i:Nat} (h:i < n):(tMix r n).getD i 0=mixedS r (i:Int):=mapRange_get _ _ h
theorem tWhen_len (r:Run) (n:Nat):(tWhen r n).length=n:=by simp [tWhen]
theorem tOld_len (r:Run) (n:Nat):(tOld r n).length=n:=by simp [tOld]
theorem tWhr_len (r:Run) (n:Nat):(tWhr r n).length=n:=by simp [tWhr]
theorem tMix_len (r:Run) (n:Nat):(tMix r n).length=n:=by simp [tMix]
theorem idx_div {P m k:Nat} (hk:k < P):(m * P + k) / P=m/\(m * P + k) % P=k:=by
 have hp:0 < P:=by omega
 rw [Nat.mul_comm]
 exact ⟨by rw [Nat.mul_add_div hp,Nat.div_eq_of_lt hk,Nat.add_zero],by rw [Nat.mul_add_mod,Nat.mod_eq_of_lt hk]⟩
theorem wAt_idx (r:Run) {m k:Nat} (hk:(k:Int) < r.plates):wAt r (m * r.plates.toNat + k)=whenS r (m:Int) (k:Int):=by
 have hk2:k < r.plates.toNat:=by omega
 unfold wAt
 rw [(idx_div hk2).1,(idx_div hk2).2]
theorem idx_split {P M i:Nat} (hP:0 < P) (h:i < M * P):i / P < M/\i % P < P:=⟨Nat.div_lt_of_lt_mul (by rw [Nat.mul_comm]; exact h),Nat.mod_lt _ hP⟩
theorem whenIs_nat {r:Run} (ok:Ok r) {m p:Nat} (hm:m < r.machines.length) (hp:(p:Int) < r.plates):whenIs r (m:Int) (p:Int)=true:=by
 have:=ok.plates
 simp only [whenIs,isMachine,isPlate,Bool.and_eq_true,within_iff,plates_wr ok]
 omega
theorem isMachine_nat {r:Run} {m:Nat} (hm:m < r.machines.length):isMachine r (m:Int)=true:=by
 simp only [isMachine,within_iff]; omega
theorem isFound_nat {r:Run} {i:Nat} (hi:i < r.found.length):isFound r (i:Int)=true:=by
 simp only [isFound,within_iff]; omega
theorem isPlate_nat {r:Run} (ok:Ok r) {p:Nat} (hp:(p:Int) < r.plates):isPlate r (p:Int)=true:=by
 have:=ok.plates
 simp only [isPlate,within_iff,plates_wr ok]; omega
theorem one_open {r:Run} (h:One r) {is:Bool} (hi:is=true):openE r is=0:=by rw [open_eq]; exact h.zero _ hi
theorem when_in {r:Run} (h:One r) {m p:Nat} (hm:m < r.machines.length) (hp:(p:Int) < r.plates):inside (whenS r m p) (chg (mach r m) p)=true:=by
 have hi:=whenIs_nat h.ok hm hp
 obtain ⟨s1,⟨x,hx,ex⟩,y,hy,ey⟩:=rhull_spec (fun l=>spanOf r l m p) h.pos
 have hw:=(when_val h hi).1
 simp only [Int.toNat_natCast] at hw
 rw [hw]
 have h1:=spanOf_narrow r x m p
 have h2:=spanOf_narrow r y m p
 have h3:=froms_le h.ok hx hm hp
 have h4:=s1 x hx
 simp only [inside,Bool.and_eq_true,decide_eq_true_eq]
 try simp only at ex ey h4
 omega
theorem old_val {r:Run} (h:One r) {p:Nat} (hp:(p:Int) < r.plates):oldS r (p:Int)=rhull (fromsOf r) (oldL r p):=by
 rw [old_eq,oldR,if_pos (h.zero _ (isPlate_nat h.ok hp)),Int.toNat_natCast]
theorem mixes_val {r:Run} (h:One r):mixesS r=rhull (fromsOf r) (mixL r):=by
 have hw:0 < (waysOf r).length:=by rw [ways_len h.ok]; exact h.pos
 rw [mixesS,if_pos (one_open h rfl),hull_eq (G:=mixL r) hw (fun w hw=>way_mix h.ok hw),ways_froms h.ok]
theorem mixed_val {r:Run} (h:One r) {m:Nat} (hm:m < r.machines.length):mixedS r (m:Int)=if (∀ x,x ∈ fromsOf r->0 < (minutes (spanOf r x m) r.plates.toNat).lo) then 1 else if (∀ x,x ∈ fromsOf r->(minutes (spanOf r x m) r.plates.toNat).hi=0) then 2 else 3:=by
 rw [mixed_eq,mixedR,if_pos (h.zero _ (isMachine_nat hm)),Int.toNat_natCast]
 have e1:suTo r (fromsOf r) m (fromsOf r).length=true ↔ ∀ x,x ∈ fromsOf r->0 < (minutes (spanOf r x m) r.plates.toNat).lo:=by
  rw [suTo,List.take_length,List.all_eq_true]; simp only [decide_eq_true_eq,gt_iff_lt]
 have e2:nvTo r (fromsOf r) m (fromsOf r).length=true ↔ ∀ x,x ∈ fromsOf r->(minutes (spanOf r x m) r.plates.toNat).hi=0:=by
  rw [nvTo,List.take_length,List.all_eq_true]; simp only [decide_eq_true_eq]
 by_cases c1:∀ x,x ∈ fromsOf r->0 < (minutes (spanOf r x m) r.plates.toNat).lo
 ·rw [if_pos (e1.2 c1),if_pos c1]
 ·rw [if_neg (fun hh=>c1 (e1.1 hh)),if_neg c1]
  by_cases c2:∀ x,x ∈ fromsOf r->(minutes (spanOf r x m) r.plates.toNat).hi=0
  ·rw [if_pos (e2.2 c2),if_pos c2]
  ·rw [if_neg (fun hh=>c2 (e2.1 hh)),if_neg c2]
theorem mixed_range {r:Run} (h:One r) {m:Nat} (hm:m < r.machines.length):within (mixedS r (m:Int)) 1 3=true:=by
 rw [mixed_val h hm,within_iff]
 split
 ·omega
 ·split <;> omega
theorem where_val {r:Run} (h:One r) {i:Nat} (hi:i < r.found.length):whereS r (i:Int)=whereOf r (fromsOf r) i:=by
 rw [where_eq,whereR,if_pos (h.zero _ (isFound_nat hi)),Int.toNat_natCast]
theorem mem_where {r:Run} {l:List (List Int)} {i:Nat} {v:Int}:v ∈ whereOf r l i ↔ ∃ m:Nat,m < r.machines.length/\v=(m:Int) /\ ∃ x,x ∈ l/\x.getD i 0=(m:Int):=by
 unfold whereOf whTo anyF
 simp only [List.mem_map,List.mem_filter,List.mem_range,List.take_length,List.any_eq_true,decide_eq_true_eq]
 constructor
 ·rintro ⟨m,⟨h1,x,h2,h3⟩,rfl⟩; exact ⟨m,h1,rfl,x,h2,h3⟩
 ·rintro ⟨m,h1,rfl,x,h2,h3⟩; exact ⟨m,⟨h1,x,h2,h3⟩,rfl⟩
theorem mem_whereS {r:Run} (h:One r) {i:Nat} (hi:i < r.found.length) {v:Int}:v ∈ whereS r (i:Int) ↔ ∃ x,x ∈ fromsOf r/\x.getD i 0=v:=by
 rw [where_val h hi,mem_where]
 constructor
 ·rintro ⟨m,h1,rfl,x,h2,h3⟩; exact ⟨x,h2,h3⟩
 ·rintro ⟨x,h2,rfl⟩
  have:=froms_in h.ok h2 hi
  exact ⟨(x.getD i 0).toNat,by omega,by omega,x,h2,by omega⟩
theorem rising_of {l:List Int} {lo hi:Int} (h1:∀ x,x ∈ l->lo<=x/\x<=hi) (h2:l.Pairwise (· < ·)):rising l lo hi=true:=by
 unfold rising
 rw [List.all_eq_true]
 intro i hi
 have hi:=List.mem_range.1 hi
 unfold risAt
 rw [Bool.and_eq_true,within_iff]
 refine ⟨h1 _ (Go.Ab.getD_mem _ _ hi),?_⟩
 simp only [Bool.or_eq_true,Bool.not_eq_true',decide_eq_false_iff_not]
 by_cases e:i=0
 ·left; omega
 ·right
  have:=List.pairwise_iff_getElem.1 h2 (i - 1) i (by omega) hi (by omega)
  rw [Go.Ab.getD_lt _ _ hi,Go.Ab.getD_lt _ _ (by omega)]
  omega
theorem where_rising {r:Run} (l:List (List Int)) (i:Nat):rising (whereOf r l i) 0 ((r.machines.length:Int) - 1)=true:=by
 refine rising_of (fun x hx => ?_) ?_
 ·obtain ⟨m,h1,rfl,_⟩:=mem_where.1 hx; omega
 ·unfold whereOf whTo
  rw [List.pairwise_map]
  exact ((List.pairwise_lt_range (n:=r.machines.length)).filter _).imp fun h=>by omega
theorem where_facts {r:Run} (h:One r) {i:Nat} (hi:i < r.found.length):(whereS r (i:Int)).length ≠ 0/\(whereS r (i:Int)).length<=3/\rising (whereS r (i:Int)) 0 ((r.machines.length:Int) - 1)=true:=by
 have hr:rising (whereS r (i:Int)) 0 ((r.machines.length:Int) - 1)=true:=by rw [where_val h hi]; exact where_rising _ _
 refine ⟨?_,?_,hr⟩
 ·obtain ⟨x,hx⟩:=one_ex h
  have:=(mem_whereS h hi).2 ⟨x,hx,rfl⟩
  intro e
  rw [List.length_eq_zero_iff.1 e] at this
  cases this
 ·have:=rising_len hr
  have:=h.ok.machines
  omega
theorem old_in {r:Run} (h:One r) {p:Nat} (hp:(p:Int) < r.plates):0<=(oldS r (p:Int)).lo/\(oldS r (p:Int)).lo<=(oldS r (p:Int)).hi/\(oldS r (p:Int)).hi<=810:=by
 have hw:0 < (waysOf r).length:=by rw [ways_len h.ok]; exact h.pos
 rw [oldS,if_pos (one_open h (isPlate_nat h.ok hp)),Int.toNat_natCast]
 refine hull_in hw fun w hw => ?_
 have:=sum_hb h.ok (f:=fun m=>w.whn m p) (fun m hm=>way_hb h.ok hw hm hp) _ (Nat.le_refl _)
 have:=h.ok.machines
 show 0<=(sumTo r _ _).lo/\(sumTo r _ _).lo<=(sumTo r _ _).hi/\(sumTo r _ _).hi<=810
 omega
theorem mixes_in {r:Run} (h:One r):0<=(mixesS r).lo/\(mixesS r).lo<=(mixesS r).hi/\(mixesS r).hi<=810:=by
 have hw:0 < (waysOf r).length:=by rw [ways_len h.ok]; exact h.pos
 have hpl:=h.ok.plates
 rw [mixesS,if_pos (one_open h rfl)]
 refine hull_in hw fun w hw => ?_
 have:=sum_hb h.ok (f:=fun m=>spread (w.whn m) r.plates.toNat) (fun m hm=>by
  rw [way_spread h.ok hw hm]
  exact minutes_hb (by omega) fun q hq=>by
   have:=(way_ok h.ok hw).2 m hm q (by omega)
   rw [← this]; exact way_hb h.ok hw hm (by omega)) _ (Nat.le_refl _)
 have:=h.ok.machines
 show 0<=(sumTo r _ _).lo/\(sumTo r _ _).lo<=(sumTo r _ _).hi/\(sumTo r _ _).hi<=810
 omega
theorem few_val0 {r:Run} (h:One r):0<=fewP r/\fewP r<=r.machines.length:=⟨(few_spec h).2.1,(few_spec h).2.2.1⟩
theorem ok_fits {r:Run} (ok:Ok r):fits r:=by
 have h1:=ok.machines
 have h2:=ok.found
 have h3:=ok.plates
 refine ⟨by omega,by omega,fun i => ?_,fun i => ?_⟩
 ·by_cases hi:i < r.machines.length
  ·have:=ok.mach i hi; omega
  ·rw [mach,Go.Ab.getD_ge _ _ (by omega)]; exact Nat.zero_le _
 ·by_cases hi:i < r.found.length
  ·have:=ok.fnd i hi; have:=frm_len ok hi; omega
  ·rw [fnd,Go.Ab.getD_ge _ _ (by omega)]; exact ⟨Nat.zero_le _,Nat.zero_le _⟩
theorem minutes_mono {g h:Nat->Span} {n:Nat} (hn:1<=n/\n<=3) (hs:∀ p,p < n->(h p).lo<=(g p).lo/\(g p).hi<=(h p).hi):(minutes h n).lo<=(minutes g n).lo/\(minutes g n).hi<=(minutes h n).hi:=by
 have s0:=hs 0 (by omega)
 have:n=1 ∨ n=2 ∨ n=3:=by omega
 rcases this with rfl | rfl | rfl
 ·refine ⟨?_,?_⟩ <;> (simp only [minutes,minTo,minIn,List.range_succ,List.range_zero,List.nil_append,List.foldl_cons,List.foldl_nil,if_true]; omega)
 ·have s1:=hs 1 (by omega)
  refine ⟨?_,?_⟩ <;> (simp only [minutes,minTo,minIn,List.range_succ,List.range_zero,List.nil_append,List.cons_append,List.foldl_cons,List.foldl_nil,if_true]; simp only [show ¬ (0:Nat)=1 by omega,show ¬ (1:Nat)=0 by omega,if_false]; omega)
 ·have s1:=hs 1 (by omega)
  have s2:=hs 2 (by omega)
  refine ⟨?_,?_⟩ <;> (simp only [minutes,minTo,minIn,List.range_succ,List.range_zero,List.nil_append,List.cons_append,List.foldl_cons,List.foldl_nil,if_true]; simp only [show ¬ (0:Nat)=1 by omega,show ¬ (1:Nat)=0 by omega,show ¬ (0:Nat)=2 by omega,show ¬ (2:Nat)=0 by omega,show ¬ (1:Nat)=2 by omega,show ¬ (2:Nat)=1 by omega,if_false]; omega)
theorem minutes_nn (g:Nat->Span) {n:Nat} (hn:1<=n/\n<=3):0<=(minutes g n).lo/\0<=(minutes g n).hi:=by
 have:n=1 ∨ n=2 ∨ n=3:=by omega
 rcases this with rfl | rfl | rfl
 ·refine ⟨?_,?_⟩ <;> (simp only [minutes,minTo,minIn,List.range_succ,List.range_zero,List.nil_append,List.foldl_cons,List.foldl_nil,if_true]; omega)
 ·refine ⟨?_,?_⟩ <;> (simp only [minutes,minTo,minIn,List.range_succ,List.range_zero,List.nil_append,List.cons_append,List.foldl_cons,List.foldl_nil,if_true]; simp only [show ¬ (0:Nat)=1 by omega,show ¬ (1:Nat)=0 by omega,if_false]; omega)
 ·refine ⟨?_,?_⟩ <;> (simp only [minutes,minTo,minIn,List.range_succ,List.range_zero,List.nil_append,List.cons_append,List.foldl_cons,List.foldl_nil,if_true]; simp only [show ¬ (0:Nat)=1 by omega,show ¬ (1:Nat)=0 by omega,show ¬ (0:Nat)=2 by omega,show ¬ (2:Nat)=0 by omega,show ¬ (1:Nat)=2 by omega,show ¬ (2:Nat)=1 by omega,if_false]; omega)
theorem sumTo_mono {r o:Run} {f g:Nat->Span}:∀ n,(∀ m,m < n->(mach o m).rate=(mach r m).rate/\0<=(mach r m).rate/\(f m).lo<=(g m).lo/\(g m).hi<=(f m).hi/\(g m).lo<=(g m).hi)->(sumTo r f n).lo<=(sumTo o g n).lo/\(sumTo o g n).hi<=(sumTo r f n).hi/\(sumTo o g n).lo<=(sumTo o g n).hi:=by
 intro n
 induction n with
 | zero=>intro _; exact ⟨Int.le_refl _,Int.le_refl _,Int.le_refl _⟩
 | succ n ih =>
  intro h
  have h1:=ih fun m hm=>h m (by omega)
  obtain ⟨e,h2,h3,h4,h5⟩:=h n (by omega)
  rw [sumTo_succ,sumTo_succ,e]
  have a1:=Int.mul_le_mul_of_nonneg_left h3 h2
  have a2:=Int.mul_le_mul_of_nonneg_left h4 h2
  have a3:=Int.mul_le_mul_of_nonneg_left h5 h2
  simp only
  omega
structure Clear (x y:Tld):Prop where
 wl:x.when.length=y.when.length/\x.when.length<=65536
 ol:x.old.length=y.old.length/\x.old.length<=65536
 ml:x.mixed.length=y.mixed.length/\x.mixed.length<=65536
 hl:y.whr.length<=x.whr.length/\x.whr.length<=65536
 mixes:inside x.mixes y.mixes=true
 few:y.fewest<=x.fewest
 when:∀ i,i < x.when.length->inside (x.when.getD i default) (y.when.getD i default)=true
 old:∀ i,i < x.old.length->inside (x.old.getD i default) (y.old.getD i default)=true
 mixed:∀ i,i < x.mixed.length->y.mixed.getD i 0=3 ∨ x.mixed.getD i 0=y.mixed.getD i 0
 whr:∀ i,i < y.whr.length->(∀ k,k < (x.whr.getD i []).length->isIn (y.whr.getD i []) ((x.whr.getD i []).getD k 0)=true)/\(x.whr.getD i []).length<=65536/\(y.whr.getD i []).length<=65536
structure Finer (o r:Run) (φ:List Int->List Int):Prop where
 ro:One r
 oo:One o
 ml:o.machines.length=r.machines.length
 pl:o.plates=r.plates
 rate:∀ m,m < r.machines.length->(mach o m).rate=(mach r m).rate
 mem:∀ x,x ∈ fromsOf o->φ x ∈ fromsOf r
 span:∀ x,x ∈ fromsOf o -> ∀ m,m < r.machines.length -> ∀ p:Nat,(p:Int) < r.plates->(spanOf r (φ x) m p).lo<=(spanOf o x m p).lo/\(spanOf o x m p).hi<=(spanOf r (φ x) m p).hi
 sub:∀ x,x ∈ fromsOf o -> ∀ v,v ∈ φ x->v ∈ x
theorem rhull_in {lo lr:List (List Int)} {F G:List Int->Span} {φ:List Int->List Int} (h1:0 < lo.length) (h2:0 < lr.length) (h:∀ x,x ∈ lo->φ x ∈ lr/\(G (φ x)).lo<=(F x).lo/\(F x).hi<=(G (φ x)).hi/\(F x).lo<=(F x).hi):inside (rhull lo F) (rhull lr G)=true:=by
 obtain ⟨a1,⟨x,hx,ex⟩,y,hy,ey⟩:=rhull_spec F h1
 obtain ⟨b1,_,_⟩:=rhull_spec G h2
 have hx1:=h x hx
 have hy1:=h y hy
 have hx2:=b1 _ hx1.1
 have hy2:=b1 _ hy1.1
 have hx3:=a1 x hx
 simp only [inside,Bool.and_eq_true,decide_eq_true_eq]
 omega
theorem finer_clear {o r:Run} {φ:List Int->List Int} (h:Finer o r φ):∀ ho hr:List (List Int),hr.length<=ho.length->ho.length<=65536 →
  (∀ i,i < hr.length->(∀ k,k < (ho.getD i []).length->isIn (hr.getD i []) ((ho.getD i []).getD k 0)=true)/\(ho.getD i []).length<=65536/\(hr.getD i []).length<=65536) →
  Clear ⟨(toldOf o).when,(toldOf o).old,ho,(toldOf o).mixed,(toldOf o).mixes,(toldOf o).fewest⟩ ⟨(toldOf r).when,(toldOf r).old,hr,(toldOf r).mixed,(toldOf r).mixes,(toldOf r).fewest⟩:=by
 intro ho hr c1 c2 c3
 have okr:=h.ro.ok
 have oko:=h.oo.ok
 have hpl:=okr.plates
 have hml:=okr.machines
 have hN:r.machines.length * r.plates.toNat<=3 * 3:=Nat.mul_le_mul (by omega) (by omega)
 have hmin:∀ x,x ∈ fromsOf o -> ∀ m,m < r.machines.length->(minutes (spanOf r (φ x) m) r.plates.toNat).lo<=(minutes (spanOf o x m) r.plates.toNat).lo/\(minutes (spanOf o x m) r.plates.toNat).hi<=(minutes (spanOf r (φ x) m) r.plates.toNat).hi/\(minutes (spanOf o x m) r.plates.toNat).lo<=(minutes (spanOf o x m) r.plates.toNat).hi:=by
  intro x hx m hm
  have a:=minutes_mono (g:=spanOf o x m) (h:=spanOf r (φ x) m) (n:=r.plates.toNat) (by omega) fun p hp=>h.span x hx m hm p (by omega)
  have b:=minutes_le (h:=spanOf o x m) (n:=r.plates.toNat) (by omega) fun p hp=>froms_le oko hx (by rw [h.ml]; exact hm) (by rw [h.pl]; omega)
  exact ⟨a.1,a.2,b⟩
 refine { wl := ?_,ol := ?_,ml := ?_,hl:=⟨c1,c2⟩,mixes := ?_,few := ?_,when := ?_,old := ?_,mixed := ?_,whr:=c3 }
 ·simp only [toldOf,tWhen_len,h.ml,h.pl]; exact ⟨trivial,by omega⟩
 ·simp only [toldOf,tOld_len,h.pl]; exact ⟨trivial,by omega⟩
 ·simp only [toldOf,tMix_len,h.ml]; exact ⟨trivial,by omega⟩
 ·show inside (mixesS o) (mixesS r)=true
  rw [mixes_val h.oo,mixes_val h.ro]
  refine rhull_in (φ:=φ) h.oo.pos h.ro.pos fun x hx=>⟨h.mem x hx,?_⟩
  unfold mixL
  rw [h.ml,h.pl]
  exact sumTo_mono r.machines.length fun m hm=>⟨h.rate m hm,(okr.mach m hm).2.1,(hmin x hx m hm)⟩
 ·show fewP r<=fewP o
  obtain ⟨_,_,_,x,hx,e⟩:=few_spec h.oo
  have:=(few_spec h.ro).1 (φ x) (h.mem x hx)
  rw [e,h.ml]
  have h2:=usedTo_mono (n:=r.machines.length) (h.sub x hx)
  omega
 ·intro i hi
  simp only [toldOf,tWhen_len,h.ml,h.pl] at hi
  show inside ((tWhen o _).getD i default) ((tWhen r _).getD i default)=true
  rw [tWhen_get _ (by rw [h.ml,h.pl]; exact hi),tWhen_get _ hi]
  obtain ⟨d1,d2⟩:=idx_split (by omega) hi
  unfold wAt
  rw [h.pl]
  have hp:(((i % r.plates.toNat:Nat)):Int) < r.plates:=by omega
  have w1:=(when_val h.oo (whenIs_nat oko (by rw [h.ml]; exact d1) (by rw [h.pl]; exact hp))).1
  have w2:=(when_val h.ro (whenIs_nat okr d1 hp)).1
  rw [w1,w2]
  simp only [Int.toNat_natCast]
  refine rhull_in (φ:=φ) h.oo.pos h.ro.pos fun x hx=>⟨h.mem x hx,?_⟩
  have:=h.span x hx _ d1 _ hp
  have:=froms_le oko hx (m:=i / r.plates.toNat) (p:=i % r.plates.toNat) (by rw [h.ml]; exact d1) (by rw [h.pl]; exact hp)
  omega
 ·intro p hp
  simp only [toldOf,tOld_len,h.pl] at hp
  show inside ((tOld o _).getD p default) ((tOld r _).getD p default)=true
  rw [tOld_get _ (by rw [h.pl]; exact hp),tOld_get _ hp,old_val h.oo (by rw [h.pl]; omega),old_val h.ro (by omega)]
  refine rhull_in (φ:=φ) h.oo.pos h.ro.pos fun x hx=>⟨h.mem x hx,?_⟩
  unfold oldL
  rw [h.ml]
  refine sumTo_mono r.machines.length fun m hm=>⟨h.rate m hm,(okr.mach m hm).2.1,?_⟩
  have:=h.span x hx m hm p (by omega)
  have:=froms_le oko hx (m:=m) (p:=p) (by rw [h.ml]; exact hm) (by rw [h.pl]; omega)
  omega
 ·intro m hm
  simp only [toldOf,tMix_len,h.ml] at hm
  show (tMix r _).getD m 0=3 ∨ (tMix o _).getD m 0=(tMix r _).getD m 0
  rw [tMix_get _ hm,tMix_get _ (by rw [h.ml]; exact hm),mixed_val h.ro hm,mixed_val h.oo (by rw [h.ml]; exact hm),h.pl]
  by_cases e1:∀ x,x ∈ fromsOf r->0 < (minutes (spanOf r x m) r.plates.toNat).lo
  ·have e1':∀ x,x ∈ fromsOf o->0 < (minutes (spanOf o x m) r.plates.toNat).lo:=by
    intro x hx
    have:=e1 _ (h.mem x hx)
    have:=hmin x hx m hm
    omega
   right; rw [if_pos e1,if_pos e1']
  ·rw [if_neg e1]
   by_cases e2:∀ x,x ∈ fromsOf r->(minutes (spanOf r x m) r.plates.toNat).hi=0
   ·have e2':∀ x,x ∈ fromsOf o->(minutes (spanOf o x m) r.plates.toNat).hi=0/\(minutes (spanOf o x m) r.plates.toNat).lo<=0:=by
     intro x hx
     have a:=e2 _ (h.mem x hx)
     have b:=hmin x hx m hm
     have c:=minutes_nn (spanOf o x m) (n:=r.plates.toNat) (by omega)
     omega
    right
    obtain ⟨x,hx⟩:=one_ex h.oo
    rw [if_pos e2,if_neg (fun hh=>by have:=hh x hx; have:=e2' x hx; omega),if_pos (fun x hx=>(e2' x hx).1)]
   ·left; rw [if_neg e2]
theorem finer_where {o r:Run} {φ:List Int->List Int} (h:Finer o r φ) (hf:r.found.length<=o.found.length) (hx:∀ x,x ∈ fromsOf o -> ∀ i,i < r.found.length->(φ x).getD i 0=x.getD i 0):Clear (toldOf o) (toldOf r):=by
 have hof:=h.oo.ok.found
 refine finer_clear h (tWhr o o.found.length) (tWhr r r.found.length) (by rw [tWhr_len,tWhr_len]; exact hf) (by rw [tWhr_len]; omega) fun i hi => ?_
 rw [tWhr_len] at hi
 rw [tWhr_get _ hi,tWhr_get _ (by omega)]
 have w1:=where_facts h.ro hi
 have w2:=where_facts h.oo (i:=i) (by omega)
 refine ⟨fun k hk => ?_,by omega,by omega⟩
 rw [isIn_mem,mem_whereS h.ro hi]
 obtain ⟨x,hx1,e⟩:=(mem_whereS h.oo (i:=i) (by omega)).1 (Go.Ab.getD_mem _ 0 hk)
 exact ⟨φ x,h.mem x hx1,by rw [hx x hx1 i hi,e]⟩
end Go.Sh
namespace Go.Sh
structure TellF (r:Run):Prop where
 okb:okRun r=true
 one:One r
theorem tellF {r:Run} (h:okRun r=true) (h2:isOne r=true):TellF r:=by
 have:0 < (fromsOf r).length:=by simp only [isOne,decide_eq_true_eq] at h2; omega
 obtain ⟨x,hx⟩:=List.exists_mem_of_length_pos this
 exact ⟨h,one_of h hx⟩
end Go.Sh
namespace Go.En
open Go Go.Ab Go.Sh
def cTld (x:Tld):List AV:=[aSpans x.when,aSpans x.old,aIntss x.whr,aInts x.mixed,iv x.mixes.lo,iv x.mixes.hi,iv x.fewest]
abbrev vTld (x:Tld):AV := .agg (cTld x)
end Go.En
namespace Go.Ab
open Go Go.RowKit Go.Proofs Go.Sh Go.En
def s47 (r:Run):CallSpec:={ args:=[vRun r],res := .tup [vTld (toldOf r),bv true],pre:=fits r/\okRun r=true/\isOne r=true }
def h47a (r:Run):Hint:={ X:=Nat,M:=fun m=>[(5,iv m),(4,.ptr 5000 [])],H:=fun m=>[(5000,.cells 62 [.vec 5001,nilv,nilv,.vec 5002,iv 0,iv 0,iv 0]),(5001,.vec 37 2 (m * r.plates.toNat) (fun k=>cSpan (wAt r k))),(5002,.vec 3 1 m (fun k=>[iv (mixedS r k)]))],I:=fun m=>m<=r.machines.length,mu:=fun m=>r.machines.length - m,x0:=(0:Nat),nx:=fun m=>m + 1 }
def h47b (r:Run) (m:Nat):Hint:={ X:=Nat,M:=fun p=>[(6,iv p),(4,.ptr 5003 [])],H:=fun p=>[(5003,.cells 62 [.vec 5004,nilv,nilv,.vec 5005,iv 0,iv 0,iv 0]),(5004,.vec 37 2 (m * r.plates.toNat + p) (fun k=>cSpan (wAt r k))),(5005,.vec 3 1 m (fun k=>[iv (mixedS r k)]))],I:=fun p=>p<=r.plates.toNat,mu:=fun p=>r.plates.toNat - p,x0:=(0:Nat),nx:=fun p=>p + 1 }
def h47c (r:Run):Hint:={ X:=Nat,M:=fun p=>[(11,iv p),(4,.ptr 5006 [])],H:=fun p=>[(5006,.cells 62 [.vec 5007,.vec 5008,nilv,.vec 5009,iv 0,iv 0,iv 0]),(5007,.vec 37 2 (r.machines.length * r.plates.toNat) (fun k=>cSpan (wAt r k))),(5008,.vec 37 2 p (fun k=>cSpan (oldS r k))),(5009,.vec 3 1 r.machines.length (fun k=>[iv (mixedS r k)]))],I:=fun p=>p<=r.plates.toNat,mu:=fun p=>r.plates.toNat - p,x0:=(0:Nat),nx:=fun p=>p + 1 }
def h47d (r:Run):Hint:={ X:=Nat,M:=fun i=>[(14,iv i),(4,.ptr 5010 [])],H:=fun i=>[(5010,.cells 62 [.vec 5011,.vec 5012,.vec 5013,.vec 5014,iv 0,iv 0,iv 0]),(5011,.vec 37 2 (r.machines.length * r.plates.toNat) (fun k=>cSpan (wAt r k))),(5012,.vec 37 2 r.plates.toNat (fun k=>cSpan (oldS r k))),(5013,.vec 30 1 i (fun k=>[aInts (whereS r k)])),(5014,.vec 3 1 r.machines.length (fun k=>[iv (mixedS r k)]))],I:=fun i=>i<=r.found.length,mu:=fun i=>r.found.length - i,x0:=(0:Nat),nx:=fun i=>i + 1 }
def s48 (x y:Tld):CallSpec:={ args:=[vTld x,vTld y],res:=bv true,pre:=Clear x y }
def h48a (x y:Tld):Hint:={ X:=Nat,M:=fun i=>[(5,iv i)],I:=fun i=>i<=x.when.length,mu:=fun i=>x.when.length - i,x0:=(0:Nat),nx:=fun i=>i + 1 }
def h48b (x y:Tld):Hint:={ X:=Nat,M:=fun i=>[(6,iv i)],I:=fun i=>i<=x.old.length,mu:=fun i=>x.old.length - i,x0:=(0:Nat),nx:=fun i=>i + 1 }
def h48c (x y:Tld):Hint:={ X:=Nat,M:=fun i=>[(7,iv i)],I:=fun i=>i<=x.mixed.length,mu:=fun i=>x.mixed.length - i,x0:=(0:Nat),nx:=fun i=>i + 1 }
def h48d (x y:Tld):Hint:={ X:=Nat,M:=fun i=>[(8,iv i)],I:=fun i=>i<=y.whr.length,mu:=fun i=>y.whr.length - i,x0:=(0:Nat),nx:=fun i=>i + 1 }
def h48e (x y:Tld) (i:Nat):Hint:={ X:=Nat,M:=fun k=>[(9,iv k)],I:=fun k=>k<=(x.whr.getD i []).length,mu:=fun k=>(x.whr.getD i []).length - k,x0:=(0:Nat),nx:=fun k=>k + 1 }
end Go.Ab
