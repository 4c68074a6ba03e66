/- Part 3 of the proof: own library, plain forms and walks. -/
import Derived.Test.YtebodmfjbfiljaaQTopStrips2
import Derived.RangeFuncStops
import Derived.RangeFuncFrom
import Derived.RangeFuncLeaves
import Derived.Shelf.Abstract
import Derived.WalkKit
import Derived.OwnWalkIn
import Derived.TacticsInMore
import Derived.LoopNIn
import Derived.LoopIn
import Derived.Shelf.Sort.Plain
import Derived.Shelf.Slices.In.SortNone
import Derived.Test.YtebodmfjbfiljaaProg
import Derived.Sort.Grow
import Derived.Lib.SlicesCompact
set_option linter.all false
set_option linter.deprecated false
namespace Go.Ab
open Go Go.RowKit
theorem rnK_nil (v:AV):rnK [] v=v:=by cases v <;> rfl
theorem rnC_nil (v:AV):rnC [] v=v:=by
 cases v with
 | clo f cs=>show AV.clo f (cs.map (rnK []))=_; rw [List.map_congr_left (fun v _=>rnK_nil v),List.map_id']
 | _=>rfl
theorem rnCs_nil (cs:List AV):cs.map (rnC [])=cs:=by rw [List.map_congr_left (fun v _=>rnC_nil v),List.map_id']
theorem rnV_nil (v:AV):rnV [] v=v:=by
 cases v with
 | agg cs=>simp only [rnV,rnCs_nil]
 | clo f cs=>simp only [rnV,rnCs_nil]
 | _=>first | rfl | (simp only [rnV,rnC_nil])
theorem rnB_nil (ob:OB):rnB [] ob=ob:=by
 cases ob with
 | cells t cs=>simp only [rnB,rnCs_nil]
 | vecx t sz n f j fj=>simp only [rnB,rnCs_nil]
 | _=>rfl
def RndK (C:Ctx) (nt:Nat) (hout:List (Nat × OB)):AX->ASt->Prop
 | .normal,st => ∃ st2,Ent C nt st st2/\hoIn st2.hp hout
 | _,_=>False
def AsgK (P:Program) (N nt:Nat) (body:Code) (hout:List (Nat × OB)):AX->ASt->Prop
 | .normal,st => ∀ C:Ctx,C.P=P->(∀ j,N<=j->C.E0.blk j=none/\C.E0.hdr j=none)->SWP C nt body (RndK C nt hout) st
 | _,_=>False
theorem look_all {p:AV->Bool} (hp:p .any=true):∀ {tm:List (Nat × AV)},tm.all (fun q=>p q.2)=true -> ∀ t,p (look tm t)=true:=by
 intro tm
 induction tm with
 | nil=>intro _ t; exact hp
 | cons q r ih =>
  intro h t
  simp only [List.all_cons,Bool.and_eq_true] at h
  simp only [look]
  split
  ·exact h.1
  ·exact ih h.2 t
def rndOK (s:CallSpec) (tm:List (Nat × AV)) (N m:Nat):Bool :=
 noDup (s.hin.map (·.1)) && tm.all (fun p=>kV (s.hin.map (·.1)) p.2) && s.hin.all (fun p=>kB (s.hin.map (·.1)) p.2 && decide (p.1 < N)) && s.hout.all (fun p=>kB (s.hout.map (·.1)) p.2) &&
 (s.args.all (kV (s.hin.map (·.1))) && Nat.beq s.args.length m) && (match s.res with | .lit (.bool true)=>true | _=>false)
def setAll (ps:List Tmp) (vs:List Value) (t:Array Value):Array Value:=(ps.zip vs).foldl (fun t q=>t.setIfInBounds q.1 q.2) t
theorem setAll_size:∀ (ps:List Tmp) (vs:List Value) (t:Array Value),(setAll ps vs t).size=t.size
 | [],_,_=>rfl
 | _ :: _,[],_=>rfl
 | p :: ps,v :: vs,t=>(setAll_size ps vs (t.setIfInBounds p v)).trans (by simp)
theorem look_cons (p:Nat) (A:AV) (l:List (Nat × AV)) (t:Nat):look ((p,A) :: l) t=if p=t then A else look l t:=rfl
theorem look_swap {p:Nat} {A:AV} {tm:List (Nat × AV)}:∀ {ps:List Tmp} {avs:List AV},p ∉ ps -> ∀ t,look ((p,A) :: (ps.zip avs ++ tm)) t=look (ps.zip avs ++ (p,A) :: tm) t
 | [],_,_,_=>rfl
 | _ :: _,[],_,_=>rfl
 | q :: ps,B :: avs,h,t=>by
  simp only [List.mem_cons,not_or] at h
  show look ((p,A) :: (q,B) :: (ps.zip avs ++ tm)) t=look ((q,B) :: (ps.zip avs ++ (p,A) :: tm)) t
  have ih:=look_swap (A:=A) (tm:=tm) (avs:=avs) h.2 t
  rw [look_cons q B (ps.zip avs ++ (p,A) :: tm),← ih,look_cons,look_cons,look_cons]
  by_cases e1:p=t
  ·rw [if_pos e1,if_neg (fun e2=>h.1 (e1.trans e2.symm)),if_pos e1]
  ·rw [if_neg e1,if_neg e1]
theorem setAll_rel {E:Env}:∀ {ps:List Tmp} {avs:List AV} {vs:List Value} {tm:List (Nat × AV)} {t:Array Value},avs.length=ps.length->vs.length=ps.length->ps.Nodup->(∀ p ∈ ps,p < t.size) →
  (∀ k,Rel E true (avs.getD k .any) (vs.getD k undef))->(∀ k,Rel E true (look tm k) (t.getD k undef)) -> ∀ k,Rel E true (look (ps.zip avs ++ tm) k) ((setAll ps vs t).getD k undef)
 | [],_,_,_,_,_,_,_,_,_,h=>h
 | p :: ps,[],_,_,_,h,_,_,_,_,_=>by simp at h
 | p :: ps,_ :: _,[],_,_,_,h,_,_,_,_=>by simp at h
 | p :: ps,A :: avs,v :: vs,tm,t,h1,h2,h3,h4,h5,h6=>by
  intro k
  have h7:=List.nodup_cons.1 h3
  show Rel E true (look ((p,A) :: (ps.zip avs ++ tm)) k) ((setAll ps vs (t.setIfInBounds p v)).getD k undef)
  rw [look_swap h7.1]
  refine setAll_rel (by simpa using h1) (by simpa using h2) h7.2 (fun q hq=>by simpa using h4 q (List.mem_cons_of_mem _ hq)) (fun j=>h5 (j + 1)) (fun j => ?_) k
  rw [look_cons]
  by_cases e:p=j
  ·subst e
   rw [if_pos rfl]
   have:(t.setIfInBounds p v).getD p undef=v:=by simp [Array.getD_eq_getD_getElem?,h4 p (List.mem_cons_self ..)]
   rw [this]; exact h5 0
  ·rw [if_neg e]
   have:(t.setIfInBounds p v).getD j undef=t.getD j undef:=by simp [Array.getD_eq_getD_getElem?,Array.getElem?_setIfInBounds_ne e]
   rw [this]; exact h6 j
theorem setAll_eq (ps:List Tmp) (vs:List Value) (t:Array Value):(ps.toArray.zip vs.toArray).foldl (fun t (p,v)=>t.setIfInBounds p v) t=setAll ps vs t:=by
 simp [setAll]
theorem round_io {P:Program} {E1:Env} {nt l:Nat} {ps:List Tmp} {rec:Loop} {assign body:Code} {a:Act} {tm:List (Nat × AV)} {s:CallSpec} (N:Nat) (hl:E1.M l=some (.loop rec)) (hrs:rec.state = .ready) (hrp:rec.pending=none) (hrt:rec.tmps=a.tmps) (hrps:rec.params=ps.toArray)
  (hra:rec.assign=assign) (hrb:rec.body=body) (hsz:a.tmps.size=nt) (hps:∀ p ∈ ps,p < nt) (hnd:ps.Nodup) (htm:∀ t,Rel E1 true (look tm t) (a.tmps.getD t undef)) (hok:rndOK s tm N ps.length=true)
  (hbody:s.pre -> ∀ C:Ctx,C.P=P->(∀ j,N<=j->C.E0.blk j=none/\C.E0.hdr j=none)->SWP C nt assign (AsgK P N nt body s.hout) ⟨ps.zip s.args ++ tm,s.hin,N⟩) :
  FnIO P E1 (.func (.yield l) #[] #[]) s:=by
 intro hpre E2 w vs le hh hlen hrel hfresh
 simp only [rndOK,Bool.and_eq_true,List.all_eq_true,decide_eq_true_eq] at hok
 obtain ⟨⟨⟨⟨⟨o1,o2⟩,o3⟩,o4⟩,o5⟩,o6⟩:=hok
 obtain ⟨o5,o5l⟩:=o5
 have o5l:s.args.length=ps.length:=Nat.eq_of_beq_eq_true o5l
 have hres:s.res = .lit (.bool true):=by
  split at o6
  ·assumption
  ·cases o6
 have hl2:E2.M l=some (.loop rec):=le.M _ _ hl
 have hlw:w.heap[l]? = some (.loop rec):=hh.mem _ _ hl2
 have hlt:l < w.heap.size:=(Array.getElem?_eq_some_iff.1 hlw).1
 have hy:=run_yield (P:=P) (args:=vs.toArray) hlw (by rw [hrps]; simp [hlen,o5l])
 rw [hrps,hrt,hra,hrb,setAll_eq] at hy
 have hy':(Instr.yield l vs.toArray).run P w = .ok (.round l rec.fn (setAll ps vs a.tmps) assign body) w:=hy
 refine ⟨l,rfl,rec.fn,setAll ps vs a.tmps,assign,body,hy',roundIn_of_wpIn trivial ?_⟩
 -- names: of what is handed in alone
 let ks:=s.hin.map (·.1)
 let E0:Env:={ E2 with blk:=fun j=>if j ∈ ks then E2.blk j else none,hdr:=fun j=>if j ∈ ks then E2.hdr j else none }
 have hs0:∀ c,c ∈ ks->E2.blk (renI [] c)=E0.blk c/\E2.hdr (renI [] c)=E0.hdr c:=fun c hc=>⟨(if_pos hc).symm,(if_pos hc).symm⟩
 have hmem:∀ {i:Nat} {ob:OB},Heap.of s.hin i=some ob->i ∈ ks:=fun h=>List.mem_map_of_mem (f:=fun x:Nat × OB=>x.1) (Heap.of_mem h)
 let av:=(calleeCtx P E2 w s.hin).avail
 let CA:Ctx:=⟨P,w,E0,av,fun _ h => .inl h,some l,false⟩
 have hokA:HeapOK CA E0 (Heap.of s.hin) w:=by
  refine ⟨rfl,rfl,rfl,Nat.le_refl _,fun _ _=>rfl,fun b o h=>hh.mem b o h,Env.le.refl _,fun b o h => .inl h,fun i ob h => ?_,fun i j x hij hi hj hix hjx => ?_⟩
  ·have ho:=hh.own i ob h
   refine rnB_inv (C:=calleeCtx P E2 w s.hin) (C':=CA) (E:=E0) (F:=E2) (l:=[]) rfl rfl hs0 (fun _ h=>h) (hmem h) (o3 _ (Heap.of_mem h)).1 ?_
   rw [rnB_nil]; exact ho
  ·have get:∀ i,Heap.of s.hin i ≠ none->i ∈ ks:=fun i h=>by
    cases e:Heap.of s.hin i with
    | none=>exact absurd e h
    | some ob=>exact hmem e
   exact hh.sep i j x hij hi hj (by rw [← hix]; exact (hs0 i (get i hi)).1) (by rw [← hjx]; exact (hs0 j (get j hj)).1)
 have hnone:∀ j,N<=j->E0.blk j=none/\E0.hdr j=none:=by
  intro j hj
  have:¬ j ∈ ks:=fun h=>by
   obtain ⟨q,hq,rfl⟩:=List.mem_map.1 h
   have:=(o3 q hq).2; omega
  exact ⟨if_neg this,if_neg this⟩
 have htmA:∀ t,Rel E0 true (look (ps.zip s.args ++ tm) t) ((setAll ps vs a.tmps).getD t undef):=by
  refine setAll_rel o5l (hlen.trans o5l) hnd (fun p hp=>by rw [hsz]; exact hps p hp) (fun k => ?_) (fun t => ?_)
  ·refine rnV_inv (E:=E0) (F:=E2) (l:=[]) rfl rfl hs0 ?_ ?_
   ·rcases Nat.lt_or_ge k s.args.length with hk | hk
    ·have:s.args.getD k .any=s.args[k]:=by simp [List.getD,List.getElem?_eq_getElem hk]
     rw [this]; exact o5 _ (List.getElem_mem hk)
    ·rw [List.getD_eq_getElem?_getD,List.getElem?_eq_none hk]; rfl
   ·rw [rnV_nil]; exact hrel k
  ·refine rnV_inv (E:=E0) (F:=E2) (l:=[]) rfl rfl hs0 (look_all (p:=kV ks) rfl (by rw [List.all_eq_true]; exact o2) t) ?_
   rw [rnV_nil]; exact (htm t).mono le
 have hsat:Sat CA E0 nt ⟨ps.zip s.args ++ tm,s.hin,N⟩ w { tmps:=setAll ps vs a.tmps,defers:=[] }:=⟨⟨hokA,htmA,⟨fun _=>rfl,trivial⟩,by rw [setAll_size]; exact hsz⟩,fun j hj=>hnone j hj⟩
 have hsw:=hbody hpre CA rfl hnone E0 w _ hsat
 refine wpIn_mono (F:=Fence.wide.inRound l) hsw ?_
 rintro e a1 w1 ⟨x,E3,st3,rfl,hs3,hk3⟩
 cases x with
 | ret=>exact hk3.elim
 | exit id=>exact hk3.elim
 | normal =>
  have hE03:=hs3.ok.heap.le
  have hl3:E3.M l=some (.loop rec):=hE03.M _ _ hl2
  have hlw1:w1.heap[l]? = some (.loop rec):=hs3.ok.heap.mem _ _ hl3
  refine ⟨_,run_beginRound hlw1 hrs,?_⟩
  -- the body's context: the record is busy
  let busy:Obj := .loop { rec with state := .busy }
  let EB0:Env:={ E0 with M:=fun b=>if b=l then some busy else E0.M b }
  let EB:Env:={ E3 with M:=fun b=>if b=l then some busy else E3.M b }
  let CB:Ctx:=⟨P,w,EB0,fun b=>av b ∨ b=l,fun _ h => .inl (.inl h),some l,false⟩
  have hleB:EB0.le EB:=⟨fun b o hb=>by
    replace hb:(if b=l then some busy else E0.M b)=some o:=hb
    show (if b=l then some busy else E3.M b)=some o
    split at hb
    ·rw [if_pos ‹_›]; exact hb
    ·rw [if_neg ‹_›]; exact hE03.M _ _ hb,hE03.blk,hE03.hdr,hE03.fns⟩
  have hokB:HeapOK CB EB (Heap.of st3.hp) (w1.putObj l busy):=by
   refine hs3.ok.heap.putL (C2:=CB) (m:=some busy) hl3 rfl (.inr rfl) rfl rfl rfl rfl rfl rfl (fun _ h => .inl h) (fun b hb => ?_) hleB (fun b o hb => ?_)
   ·have hne:b ≠ l:=fun e=>hb (.inr e)
    rw [World.putObj_heap_other hne]
    exact hs3.ok.heap.pres b (fun h=>hb (.inl h))
   ·replace hb:(if b=l then some busy else E3.M b)=some o:=hb
    split at hb
    ·rename_i e; exact .inr (.inr e)
    ·rename_i e
     rcases hs3.ok.heap.ext b o hb with h | h
     ·exact .inl (by show (if b=l then some busy else E0.M b)=some o; rw [if_neg e]; exact h)
     ·exact .inr (.inl h)
  have hleC:E3.leC EB:=⟨fun b o hb hc=>by
    show (if b=l then some busy else E3.M b)=some o
    rw [if_neg (fun e=>by rw [e,hl3] at hb; cases hb; cases hc)]; exact hb,fun _ _ h=>h,fun _ _ h=>h,rfl⟩
  have hsatB:Sat CB EB nt st3 (w1.putObj l busy) a1:=⟨⟨hokB,fun t=>(hs3.ok.tm t).monoC hleC,⟨fun _=>hs3.ok.defers.1 rfl,by rw [hs3.ok.defers.1 rfl]; trivial⟩,hs3.ok.size⟩,hs3.fresh⟩
  have hswB:=hk3 CB rfl hnone EB _ a1 hsatB
  refine wpIn_mono (F:=Fence.wide.inRound l) hswB ?_
  rintro e a4 w4 ⟨x,E4,st4,rfl,hs4,hk4⟩
  cases x with
  | ret=>exact hk4.elim
  | exit id=>exact hk4.elim
  | normal =>
   obtain ⟨st5,hent,hho⟩:=hk4
   obtain ⟨E5,hs5⟩:=hent E4 w4 a4 hs4
   have hle5:=hs5.ok.heap.le
   have hl5:E5.M l=some busy:=hle5.M l busy (if_pos rfl)
   have hlw4:w4.heap[l]? = some busy:=hs5.ok.heap.mem _ _ hl5
   have hend:=run_endRound (P:=P) none hlw4
   have hback:({ { rec with state:=LoopState.busy } with state:=(if (none:Option Code).isNone=true then LoopState.ready else LoopState.done),pending:=none }:Loop)=rec:=by
    cases rec; simp only at hrs hrp; subst hrs; subst hrp; rfl
   rw [hback] at hend
   refine ⟨_,_,hend,?_⟩
   -- back to the names of the call
   let F0:Env:={ E5 with M:=fun b=>if b=l then some (.loop rec) else E5.M b }
   let C3:Ctx:=⟨P,w,E0,av,fun _ h => .inl h,some l,false⟩
   have hle0:E0.le F0:=⟨fun b o hb=>by
     show (if b=l then some (.loop rec) else E5.M b)=some o
     by_cases e:b=l
     ·rw [if_pos e]
      have:E0.M b=some (.loop rec):=by rw [e]; exact hl2
      rw [← this]; exact hb
     ·rw [if_neg e]
      exact hle5.M b o (by show (if b=l then some busy else E0.M b)=some o; rw [if_neg e]; exact hb),hle5.blk,hle5.hdr,hle5.fns⟩
   have hok6:HeapOK C3 F0 (Heap.of st5.hp) (w4.putObj l (.loop rec)):=by
    have hswap:=hs5.ok.heap.putL (C2:={ CB with E0:={ EB0 with M:=fun b=>if b=l then some (.loop rec) else E0.M b } }) (E2:=F0) (o' := .loop rec) (m:=some (.loop rec)) hl5 rfl (.inr rfl) rfl rfl rfl rfl rfl rfl (fun _ h=>h) (fun b hb => ?_) ⟨fun b o hb => ?_,hle0.blk,hle0.hdr,hle0.fns⟩ (fun b o hb => ?_)
    ·refine ⟨hswap.os,hswap.tape,hswap.output,hswap.size,fun b hb => ?_,hswap.mem,hle0,fun b o hb => ?_,fun i ob hi => ?_,hswap.sep⟩
     ·by_cases e:b=l
      ·rw [e,World.putObj_heap_same (Array.getElem?_eq_some_iff.1 hlw4).1]; exact hlw.symm
      ·exact hswap.pres b (fun h=>h.elim hb e)
     ·replace hb:(if b=l then some (.loop rec) else E5.M b)=some o:=hb
      split at hb
      ·rename_i e; exact .inl (by rw [e]; show E2.M l=some o; rw [hl2]; exact hb)
      ·rename_i e
       rcases hs5.ok.heap.ext b o hb with h | h
       ·replace h:(if b=l then some busy else E0.M b)=some o:=h
        rw [if_neg e] at h; exact .inl h
       ·exact .inr (h.resolve_right e)
     ·have ho:=hswap.own i ob hi
      -- no block of the call's own is the record
      refine ho.moveAv (fun k hk => ?_)
      rcases hk with ⟨hav,hM⟩
      refine hav.resolve_right (fun e => ?_)
      rw [e] at hM
      replace hM:(if l=l then some (.loop rec) else E5.M l)=(none:Option Obj):=hM
      rw [if_pos rfl] at hM; cases hM
    ·have hne:b ≠ l:=fun e=>hb (.inr e)
     rw [World.putObj_heap_other hne]
     exact hs5.ok.heap.pres b hb
    ·replace hb:(if b=l then some (.loop rec) else E0.M b)=some o:=hb
     by_cases e:b=l
     ·rw [if_pos e] at hb; show (if b=l then some (.loop rec) else E5.M b)=some o; rw [if_pos e]; exact hb
     ·rw [if_neg e] at hb; exact hle0.M b o hb
    ·replace hb:(if b=l then some (.loop rec) else E5.M b)=some o:=hb
     split at hb
     ·rename_i e; exact .inr (.inr e)
     ·rename_i e
      rcases hs5.ok.heap.ext b o hb with h | h
      ·replace h:(if b=l then some busy else E0.M b)=some o:=h
       rw [if_neg e] at h
       exact .inl (by show (if b=l then some (.loop rec) else E0.M b)=some o; rw [if_neg e]; exact h)
      ·exact .inr h
   let ko:=s.hout.map (·.1)
   let F:Env:={ F0 with blk:=fun j=>if j ∈ ko then F0.blk j else E2.blk j,hdr:=fun j=>if j ∈ ko then F0.hdr j else E2.hdr j }
   have hren:Rn [] ko F0 F:=⟨fun b o h=>h,rfl,fun c hc=>⟨if_pos hc,if_pos hc⟩⟩
   have hin0:∀ j k,E2.blk j=some k->j ∈ ko->F0.blk j=some k:=by
    intro j k hj hjo
    by_cases hi:j ∈ ks
    ·exact hle0.blk j k (by show (if j ∈ ks then E2.blk j else none)=some k; rw [if_pos hi]; exact hj)
    ·obtain ⟨q,hq,rfl⟩:=List.mem_map.1 hjo
     have:=(hfresh q hq (fun r hr e=>hi (by rw [← e]; exact List.mem_map_of_mem (f:=fun x:Nat × OB=>x.1) hr))).1
     rw [this] at hj; cases hj
   have hin1:∀ j u,E2.hdr j=some u->j ∈ ko->F0.hdr j=some u:=by
    intro j u hj hjo
    by_cases hi:j ∈ ks
    ·exact hle0.hdr j u (by show (if j ∈ ks then E2.hdr j else none)=some u; rw [if_pos hi]; exact hj)
    ·obtain ⟨q,hq,rfl⟩:=List.mem_map.1 hjo
     have:=(hfresh q hq (fun r hr e=>hi (by rw [← e]; exact List.mem_map_of_mem (f:=fun x:Nat × OB=>x.1) hr))).2
     rw [this] at hj; cases hj
   have lF:E2.le F:=by
    refine ⟨fun b o hb=>hle0.M b o hb,fun j k hj => ?_,fun j u hj => ?_,hle0.fns⟩
    ·show (if j ∈ ko then F0.blk j else E2.blk j)=some k
     split
     ·exact hin0 j k hj ‹_›
     ·exact hj
    ·show (if j ∈ ko then F0.hdr j else E2.hdr j)=some u
     split
     ·exact hin1 j u hj ‹_›
     ·exact hj
   refine ⟨.bool true,F,rfl,?_,by rw [hres]; exact .lit _,fun j hj => ?_⟩
   ·refine ⟨hok6.os,hok6.tape,hok6.output,hok6.size,fun x hx=>hok6.pres x hx,fun x o h=>hok6.mem x o h,lF,fun x o h=>hok6.ext x o h,fun i ob hi => ?_,fun i j y hij hi hj hiy hjy => ?_⟩
    ·have hm:=Heap.of_mem hi
     have hc:i ∈ ko:=List.mem_map_of_mem (f:=fun x:Nat × OB=>x.1) hm
     have:=rnB_own (C:=C3) (C':=calleeCtx P E2 w s.hin) hren (fun _ h=>h) (fun _ h=>h) hc (o4 _ hm) (hok6.own i ob (hoIn_mem hho _ hm))
     rw [rnB_nil] at this
     exact this
    ·have get:∀ i,Heap.of s.hout i ≠ none->F.blk i=some y->Heap.of st5.hp i ≠ none/\F0.blk i=some y:=by
      intro i hi hiy
      cases e:Heap.of s.hout i with
      | none=>exact absurd e hi
      | some ob =>
       have hm:=Heap.of_mem e
       have hc:i ∈ ko:=List.mem_map_of_mem (f:=fun x:Nat × OB=>x.1) hm
       refine ⟨by rw [hoIn_mem hho _ hm]; simp,?_⟩
       replace hiy:(if i ∈ ko then F0.blk i else E2.blk i)=some y:=hiy
       rw [if_pos hc] at hiy; exact hiy
     obtain ⟨n1,k1⟩:=get i hi hiy
     obtain ⟨n2,k2⟩:=get j hj hjy
     exact hok6.sep i j y hij n1 n2 k1 k2
   ·have hno:j ∉ ko:=fun h=>by
     obtain ⟨q,hq,e⟩:=List.mem_map.1 h
     exact hj q hq e
    exact ⟨if_neg hno,if_neg hno⟩
def RngK (C:Ctx) (nt:Nat) (hp:List (Nat × OB)) (nx:Nat):AX->ASt->Prop
 | .exit _,_=>False
 | _,st => ∃ st2,Ent C nt st st2/\hoIn st2.hp hp/\st2.nx<=nx
theorem old_cell {w:World} {o1 o2:Obj} {k:Nat} (h:k < w.heap.size):((w.alloc o1).alloc o2).heap[k]? = w.heap[k]? := by
 rw [(World.grownBy_alloc (w.alloc o1) o2 none).block k (by simp; omega) (by simp)]
 exact (World.grownBy_alloc w o1 none).block k h (by simp)
theorem swp_range0 {C:Ctx} {nt:Nat} {K:AX->ASt->Prop} {st:ASt} {g:Operand} {ps:List Tmp} {assign body:Code} {gf:FuncId} {fa ca:List AV} {fn:Func} {c:Code}
  (hp2:List (Nat × OB)) (nx2 kf N:Nat) (kt:List Nat) (R:CallSpec->Prop) (hro:C.ro=none) (hdf:C.df=true) (hg:∀ (E':Env) (u:Value),Rel E' true (opAV (look st.tm) g) u -> ∃ fs us,u = .func (.func gf) (List.toArray fs) (List.toArray us)/\fs.length=fa.length/\us.length=ca.length/\(∀ k,Rel E' true (fa.getD k .any) (fs.getD k undef)) /\ ∀ k,Rel E' true (ca.getD k .any) (us.getD k undef)) (hf:C.P.funcs[gf]? = some fn) (hb:fn.body=some c) (hrs:fn.results = #[]) (hcall:Callable C.P gf)
  (hn:fa.length + ca.length + 1<=fn.ntmps) (hps:∀ p ∈ ps,p < nt) (hnd:ps.Nodup) (hno:(noFnL fa && noFnL ca && (kt.all fun t=>noFn (look st.tm t)) && (st.hp.all fun q=>obNoFn q.2) && hp2.all fun q=>obNoFn q.2)=true)
  (hR:∀ s,R s->rndOK s (kt.map fun t=>(t,look st.tm t)) N ps.length=true)
  (hit:∀ C':Ctx,C'.P=C.P->(∀ s,R s -> ∀ u,C'.E0.fns kf u->FnIO C.P C'.E0 u s)->(∀ j,st.nx<=j->C'.E0.blk j=none/\C'.E0.hdr j=none)->SWP C' fn.ntmps c (RngK C' fn.ntmps hp2 nx2) ⟨argsTm (fa ++ .fn kf :: ca) 0,st.hp,st.nx⟩)
  (hbody:∀ s,R s->s.pre -> ∀ C':Ctx,C'.P=C.P->(∀ j,N<=j->C'.E0.blk j=none/\C'.E0.hdr j=none)->SWP C' nt assign (AsgK C.P N nt body s.hout) ⟨ps.zip s.args ++ (kt.map fun t=>(t,look st.tm t)),s.hin,N⟩)
  (hk:K .normal ⟨st.tm,hp2,nx2⟩):SWP C nt (.rangeFunc g ps.toArray assign body) K st:=by
 intro E w a hs
 simp only [Bool.and_eq_true] at hno
 obtain ⟨⟨⟨⟨hnof,hnoc⟩,hnot⟩,hnoh⟩,hnoh2⟩:=hno
 rw [List.all_eq_true] at hnot hnoh hnoh2
 obtain ⟨fs,us,hge,hfl,hcl,hfr,hcr⟩:=hg E _ (opAV_rel hs.ok.tm g)
 refine wpIn_rangeFunc ?_
 intro fnid _
 have hh:=hs.ok.heap
 let D:=w.heap.size
 let rec':Loop:={ state := .ready,pending:=none,fn:=fnid,tmps:=a.tmps,params:=ps.toArray,assign,body,defers:=D }
 let W1:World:=(w.alloc (.deferred (some []))).alloc (.loop rec')
 let yv:Value := .func (.yield (D + 1)) #[] #[]
 let E':Env:={ E with M:=fun b=>if b=D then some (.deferred (some [])) else if b=D + 1 then some (.loop rec') else E.M b }
 let E1:Env:=E'.setFns (fun k u=>k=kf/\u=yv)
 let C1:Ctx:=⟨C.P,C.w0,E1,C.avail,C.hA,none,false⟩
 have hMlt:∀ b o,E.M b=some o->b < D:=fun b o h=>(Array.getElem?_eq_some_iff.1 (hh.mem b o h)).1
 have hE'M:∀ b,b < D->E'.M b=E.M b:=fun b hb=>by
  show (if b=D then some (.deferred (some [])) else if b=D + 1 then some (.loop rec') else E.M b)=E.M b
  rw [if_neg (by omega),if_neg (by omega)]
 have hMD:E'.M D=some (.deferred (some [])):=if_pos rfl
 have hML:E'.M (D + 1)=some (.loop rec'):=by
  show (if D + 1=D then some (.deferred (some [])) else if D + 1=D + 1 then some (.loop rec') else E.M (D + 1))=_
  rw [if_neg (by omega),if_pos rfl]
 have leE:E.le E':=⟨fun b o h=>by rw [hE'M b (hMlt b o h)]; exact h,fun _ _ h=>h,fun _ _ h=>h,rfl⟩
 have hWD:W1.heap[D]? = some (.deferred (some [])):=(World.grownBy_alloc (w.alloc _) _ none).block D (by simp [D]) (by simp) |>.trans (World.alloc_heap_new w _)
 have hWL:W1.heap[D + 1]? = some (.loop rec'):=by
  have:=World.alloc_heap_new (w.alloc (.deferred (some []))) (.loop rec')
  rwa [World.size_alloc] at this
 have hok1:HeapOK C1 E1 (Heap.of st.hp) W1:=by
  refine ⟨hh.os,hh.tape,hh.output,?_,fun b hb => ?_,fun b o hb => ?_,Env.le.refl _,fun b o hb => .inl hb,fun i ob hi => ?_,hh.sep⟩
  ·show C.w0.heap.size<=((w.alloc _).alloc _).heap.size
   simp only [World.size_alloc]
   exact Nat.le_trans hh.size (by omega)
  ·have hlt:b < w.heap.size:=Nat.lt_of_not_le fun hle=>hb (C.hA b (Nat.le_trans hh.size hle))
   rw [old_cell hlt]; exact hh.pres b hb
  ·replace hb:(if b=D then some (.deferred (some [])) else if b=D + 1 then some (.loop rec') else E.M b)=some o:=hb
   split at hb
   ·rename_i e; rw [e,hWD]; exact hb
   ·split at hb
    ·rename_i e; rw [e,hWL]; exact hb
    ·rw [old_cell (hMlt b o hb)]; exact hh.mem b o hb
  ·have hnf:=hnoh _ (Heap.of_mem hi)
   have ho:=hh.own i ob hi
   refine ho.move (C':=C1) (E':=E1) (.inr hnf) (fun _ _ h=>h) (fun b o h=>leE.M b o h) rfl (fun _ h=>h) (fun k hk=>old_cell (OwnOB.blk_lt hh.mem ho hk)) (fun k hk hm => ?_) (fun o cs us hr=>⟨⟨fun t e => ?_,fun t sz n f j e => ?_⟩,fun e => ?_⟩)
   ·show E'.M k=none
    rw [hE'M k (OwnOB.blk_lt hh.mem ho hk)]; exact hm
   ·have e':ob = .cells t cs:=e
    rw [e'] at hnf
    exact (hr.mono leE).setFns _ (fun _=>hnf)
   ·have e':ob = .vecx t sz n f j cs:=e
    rw [e'] at hnf
    exact (hr.mono leE).setFns _ (fun _=>hnf)
   ·exact (hr.mono leE).setFns _ (fun e'=>by rw [e] at e'; cases e')
 let all:List Value:=fs ++ yv :: us
 have htm1:∀ t,Rel E1 true (look (argsTm (fa ++ .fn kf :: ca) 0) t) ((all.toArray ++ Array.replicate (fn.ntmps - all.toArray.size) undef).getD t undef):=by
  intro t
  rw [look_args,if_pos (Nat.zero_le _),Nat.sub_zero]
  rcases Nat.lt_or_ge t all.length with ht | ht
  ·have h1:(all.toArray ++ Array.replicate (fn.ntmps - all.toArray.size) undef).getD t undef=all.getD t undef:=by
    simp only [Array.getD_eq_getD_getElem?,List.getD_eq_getElem?_getD]
    rw [Array.getElem?_append_left (by simpa using ht)]
    simp
   rw [h1]
   show Rel E1 true ((fa ++ .fn kf :: ca).getD t .any) ((fs ++ yv :: us).getD t undef)
   rw [getD_append_av,getD_append_value,hfl]
   split
   ·exact ((hfr t).mono leE).setFns _ (fun _=>noFnL_get hnof t)
   ·cases t - fa.length with
    | zero=>exact .fn kf ⟨rfl,rfl⟩
    | succ t=>exact ((hcr t).mono leE).setFns _ (fun _=>noFnL_get hnoc t)
  ·rw [List.getD_eq_getElem?_getD,List.getElem?_eq_none (by simp only [List.length_append,List.length_cons]; simp only [all,List.length_append,List.length_cons] at ht; omega)]
   exact .any _
 have hsat1:Sat C1 E1 fn.ntmps ⟨argsTm (fa ++ .fn kf :: ca) 0,st.hp,st.nx⟩ W1 { tmps:=all.toArray ++ Array.replicate (fn.ntmps - all.toArray.size) undef,defers:=[] } :=
  ⟨⟨hok1,htm1,⟨fun _=>rfl,trivial⟩,by simp [all,hcl,hfl]; omega⟩,hs.fresh⟩
 have hfn:∀ s,R s -> ∀ u,C1.E0.fns kf u->FnIO C.P C1.E0 u s:=by
  rintro s hRs u ⟨_,rfl⟩
  refine round_io (E1:=E1) (l:=D + 1) (rec:=rec') (a:=a) (tm:=kt.map fun t=>(t,look st.tm t)) N hML rfl rfl rfl rfl rfl rfl hs.ok.size hps hnd (fun t => ?_) (hR s hRs) (hbody s hRs)
  have hkeep:noFn (look (kt.map fun t=>(t,look st.tm t)) t)=true:=look_all (p:=noFn) rfl (by rw [List.all_eq_true]; intro q hq; obtain ⟨t,ht,rfl⟩:=List.mem_map.1 hq; exact hnot t ht) t
  exact ((look_map hs.ok.tm kt t).mono leE).setFns _ (fun _=>hkeep)
 have hsw:=hit C1 rfl hfn (fun j hj=>hs.fresh j hj) E1 W1 _ hsat1
 have hcalls:Calls C.P gf all.toArray W1 (rangePost C.F 0 C.P (D + 1) (fun e a' w' => ∃ x E' st',e=x.toExit/\Sat C E' nt st' w' a'/\K x st') { a with defers:={ target := .collected D,args := #[] } :: a.defers }):=by
  refine calls_of_wp hf hb (wp_mono (wpIn_wide.1 hsw) ?_)
  rintro e a2 w2 ⟨x,E2,st2,rfl,hs2,hk2⟩
  have fin:(∃ st3,Ent C1 fn.ntmps st2 st3/\hoIn st3.hp hp2/\st3.nx<=nx2)->a2.defers = [] /\ ∃ v,(results fn a2.tmps).run C.P w2 = .ok v w2/\rangePost C.F 0 C.P (D + 1) (fun e a' w' => ∃ x E' st',e=x.toExit/\Sat C E' nt st' w' a'/\K x st') { a with defers:={ target := .collected D,args := #[] } :: a.defers } (.returned v) w2:=by
   rintro ⟨st3,hent,hho,hnx⟩
   obtain ⟨E3,hs3⟩:=hent E2 w2 a2 hs2
   refine ⟨hs2.ok.defers.1 rfl,_,results_run (us:=[]) (by rw [hrs]; rfl),?_⟩
   have h3:=hs3.ok.heap
   have hL3:E3.M (D + 1)=some (.loop rec'):=h3.le.M _ _ hML
   have hD3:E3.M D=some (.deferred (some [])):=h3.le.M _ _ hMD
   have hend:=run_endLoop (P:=C.P) (h3.mem _ _ hL3) (by simp [rec'])
   refine ⟨none,_,hend,.normal,?_⟩
   let E4:Env:={ E3 with M:=fun b=>if b=D + 1 then none else E3.M b,fns:=E.fns }
   have hlE:E.leC E4:=⟨fun b o hb _=>by
     have hlt:=hMlt b o hb
     show (if b=D + 1 then none else E3.M b)=some o
     rw [if_neg (by omega)]
     exact h3.le.M b o (by show E'.M b=some o; rw [hE'M b hlt]; exact hb),fun b k hb=>h3.le.blk b k hb,fun b u hb=>h3.le.hdr b u hb,rfl⟩
   have hleC0:C.E0.le E4:=⟨fun b o hb=>by
     have hb':=hh.le.M b o hb
     have hlt:=hMlt b o hb'
     show (if b=D + 1 then none else E3.M b)=some o
     rw [if_neg (by omega)]
     exact h3.le.M b o (by show E'.M b=some o; rw [hE'M b hlt]; exact hb'),fun b k hb=>hlE.blk b k (hh.le.blk b k hb),fun b u hb=>hlE.hdr b u (hh.le.hdr b u hb),hh.le.fns⟩
   let E3':Env:={ E3 with M:=fun b=>if b=D + 1 then none else E3.M b }
   let C2:Ctx:=⟨C.P,C.w0,{ E1 with M:=fun b=>if b=D + 1 then none else E1.M b },C.avail,C.hA,none,false⟩
   have h4:HeapOK C2 E3' (Heap.of st3.hp) (w2.putObj (D + 1) (.loop { rec' with state := .exhausted })):=by
    refine h3.putL (C2:=C2) (m:=none) hL3 rfl (.inl rfl) rfl rfl rfl rfl rfl rfl (fun _ h=>h) (fun b hb => ?_) ⟨fun b o hb => ?_,h3.le.blk,h3.le.hdr,h3.le.fns⟩ (fun b o hb => ?_)
    ·have hlt:b < C.w0.heap.size:=Nat.lt_of_not_le fun hle=>hb (C.hA b hle)
     have hsz:=hh.size
     rw [World.putObj_heap_other (by omega)]
     exact h3.pres b hb
    ·replace hb:(if b=D + 1 then none else E1.M b)=some o:=hb
     show (if b=D + 1 then none else E3.M b)=some o
     split at hb
     ·cases hb
     ·rename_i e; rw [if_neg e]; exact h3.le.M b o hb
    ·replace hb:(if b=D + 1 then none else E3.M b)=some o:=hb
     split at hb
     ·cases hb
     ·rename_i e
      rcases h3.ext b o hb with h | h
      ·exact .inl (by show (if b=D + 1 then none else E1.M b)=some o; rw [if_neg e]; exact h)
      ·exact .inr h
   have h5:HeapOK C E4 (Heap.of hp2) (w2.putObj (D + 1) (.loop { rec' with state := .exhausted })):=by
    refine ⟨h4.os,h4.tape,h4.output,h4.size,h4.pres,h4.mem,hleC0,fun b o hb => ?_,fun i ob hi => ?_,fun i j k hij hi hj h1 h2 => ?_⟩
    ·rcases h4.ext b o hb with h | h
     ·replace h:(if b=D + 1 then none else E'.M b)=some o:=h
      split at h
      ·cases h
      ·rename_i e
       by_cases e2:b=D
       ·exact .inr (C.hA b (by rw [e2]; exact hh.size))
       ·replace h:(if b=D then some (.deferred (some [])) else if b=D + 1 then some (.loop rec') else E.M b)=some o:=h
        rw [if_neg e2,if_neg e] at h
        exact hh.ext b o h
     ·exact .inr h
    ·have hm:=Heap.of_mem hi
     have hnf:=hnoh2 _ hm
     refine (h4.own i ob (hoIn_mem hho _ hm)).move (C':=C) (E':=E4) (.inr hnf) (fun _ _ h=>h) (fun _ _ h=>h) rfl (fun _ h=>h) (fun _ _=>rfl) (fun _ _ h=>h) (fun o cs us hr=>⟨⟨fun t e => ?_,fun t sz n f j e => ?_⟩,fun e => ?_⟩)
     ·have e':ob = .cells t cs:=e
      rw [e'] at hnf
      exact hr.setFns E.fns (fun _=>hnf)
     ·have e':ob = .vecx t sz n f j cs:=e
      rw [e'] at hnf
      exact hr.setFns E.fns (fun _=>hnf)
     ·exact hr.setFns E.fns (fun e'=>by rw [e] at e'; cases e')
    ·have get:∀ i,Heap.of hp2 i ≠ none->Heap.of st3.hp i ≠ none:=fun i h=>by
      cases e:Heap.of hp2 i with
      | none=>exact absurd e h
      | some ob=>rw [hoIn_mem hho _ (Heap.of_mem e)]; simp
     exact h4.sep i j k hij (get i hi) (get j hj) h1 h2
   have hC0D:C.E0.M D=none:=by
    cases e:C.E0.M D with
    | none=>rfl
    | some o=>have:=hMlt D o (hh.le.M D o e); omega
   have hD4:E4.M D=some (.deferred (some [])):=by
    show (if D=D + 1 then none else E3.M D)=_
    rw [if_neg (by omega)]; exact hD3
   refine ⟨E4,⟨st.tm,hp2,nx2⟩,rfl,⟨⟨h5,fun t=>(hs.ok.tm t).monoC hlE,⟨(fun h=>by rw [hdf] at h; cases h),⟨D,rfl,hD4,hC0D,(fun d' hd' e => ?_)⟩,hs.ok.defers.2.monoM (fun b o hb => ?_)⟩,hs.ok.size⟩,fun j hj=>hs3.fresh j (Nat.le_trans hnx hj)⟩,hk⟩
   ·obtain ⟨D',h1,h2⟩:=hs.ok.defers.2.mem d' hd'
    rw [h1] at e
    have h3:D'=D:=by injection e with e1 _; injection e1
    have:=hMlt D' _ h2
    omega
   ·have hlt:=hMlt b o hb
    show (if b=D + 1 then none else E3.M b)=some o
    rw [if_neg (by omega)]
    exact h3.le.M b o (by show E'.M b=some o; rw [hE'M b hlt]; exact hb)
  cases x with
  | normal=>exact fin hk2
  | ret=>exact fin hk2
  | exit id=>exact hk2.elim
 refine ⟨D + 1,[{ target := .collected D,args := #[] }],W1,{ target := .fn (.func gf) us.toArray,args:=fs.toArray ++ #[yv] },W1,gf,(fs.toArray ++ #[yv]) ++ us.toArray,W1,?_,?_,?_,?_,(fun h=>by cases h),?_⟩
 ·show (Instr.enterLoop fnid a.tmps ps.toArray assign body C.ro).run C.P w=_
  rw [hro]; exact run_enterLoop_outer _ _ _ _ _
 ·simp only [resolve,hge]
  simp [go_sem]
  rfl
 ·intro f' hf'; trivial
 ·have eg:=hcall
  simp [invoke,go_sem,eg _ _]
 ·have:(fs.toArray ++ #[yv]) ++ us.toArray=all.toArray:=by simp [all]
  rw [this]
  exact callsIn_F hcalls
theorem rng_clo {st:ASt} {g:Operand} {gf:FuncId} {caps:List AV} (hg:opAV (look st.tm) g = .clo gf caps) (E':Env) (u:Value) (h:Rel E' true (opAV (look st.tm) g) u):∃ fs us,u = .func (.func gf) (List.toArray fs) (List.toArray us)/\fs.length=([]:List AV).length/\us.length=caps.length/\(∀ k,Rel E' true (([]:List AV).getD k .any) (fs.getD k undef)) /\ ∀ k,Rel E' true (caps.getD k .any) (us.getD k undef):=by
 rw [hg] at h
 cases h with
 | clo _ hl hk=>exact ⟨[],_,rfl,rfl,hl,fun _ => .any _,hk⟩
theorem rng_mtv {st:ASt} {g:Operand} {gf:FuncId} {cs:List AV} (hg:opAV (look st.tm) g = .mtv gf cs) (E':Env) (u:Value) (h:Rel E' true (opAV (look st.tm) g) u):∃ fs us,u = .func (.func gf) (List.toArray fs) (List.toArray us)/\fs.length = [AV.agg cs].length/\us.length=([]:List AV).length/\(∀ k,Rel E' true ([AV.agg cs].getD k .any) (fs.getD k undef)) /\ ∀ k,Rel E' true (([]:List AV).getD k .any) (us.getD k undef):=by
 rw [hg] at h
 cases h with
 | mtv hr=>exact ⟨[_],[],rfl,rfl,rfl,fun k=>(match k with | 0=>(Rel.agg hr).up | _ + 1 => .any _),fun _ => .any _⟩
structure RangeH where
 J:Type
 ok:J->Prop
 Y:J->CallSpec
 hp:List (Nat × OB)
 N:Nat:=6000
theorem hoIn_self:∀ {l m:List (Nat × OB)},noDup ((m ++ l).map (·.1))=true->hoIn (m ++ l) l:=by
 intro l
 induction l with
 | nil=>intro _ _; trivial
 | cons p r ih =>
  intro m h
  refine ⟨?_,by have:=ih (m:=m ++ [p]) (by simpa using h); simpa using this⟩
  have hn:=noDup_nodup h
  clear ih
  induction m with
  | nil=>rw [List.nil_append,Heap.of_cons,if_pos rfl]
  | cons q m ihm =>
   simp only [List.cons_append,List.map_cons,List.nodup_cons] at hn
   rw [List.cons_append,Heap.of_cons,if_neg]
   ·exact ihm (by simp only [List.cons_append,List.map_cons,noDup,Bool.and_eq_true] at h; exact h.2) hn.2
   ·intro e
    exact hn.1 (by rw [e,List.map_append]; exact List.mem_append_right _ (by simp))
section
variable {C:Ctx} {nt:Nat} {st:ASt}
theorem rnd_end {hout:List (Nat × OB)} (nx:Nat) (h:Ent C nt st ⟨[],hout,nx⟩) (hd:noDup (hout.map (·.1))=true):RndK C nt hout .normal st:=⟨_,h,hoIn_self (m:=[]) hd⟩
theorem rng_ret {hp:List (Nat × OB)} {nx:Nat} (h:Ent C nt st ⟨[],hp,nx⟩) (hd:noDup (hp.map (·.1))=true):RngK C nt hp nx .ret st:=⟨_,h,hoIn_self (m:=[]) hd,Nat.le_refl _⟩
theorem rng_norm {hp:List (Nat × OB)} {nx:Nat} (h:Ent C nt st ⟨[],hp,nx⟩) (hd:noDup (hp.map (·.1))=true):RngK C nt hp nx .normal st:=⟨_,h,hoIn_self (m:=[]) hd,Nat.le_refl _⟩
end
end Go.Ab
namespace Go.Ab
open Go Go.RowKit Go.Proofs
universe u
theorem tv:True:=trivial
theorem An {a b:Prop} (x:a) (y:b):a/\b:=⟨x,y⟩
def tk:Nat->Prop->Prop
 | 0,q=>q
 | n + 1,q=>True/\tk n q
theorem Ak:∀ (n:Nat) {q:Prop},q->tk n q
 | 0,_,h=>h
 | n + 1,_,h=>⟨trivial,Ak n h⟩
theorem zr {α:Sort u} (a:α):a=a:=rfl
theorem ci {a b:Int} (h:a=b):iv a=iv b:=congrArg iv h
theorem cb {a b:Bool} (h:a=b):bv a=bv b:=congrArg bv h
def qOf:Option (Prop × ASt)->Prop
 | some r=>r.1
 | none=>False
def sOf (st:ASt):Option (Prop × ASt)->ASt
 | some r=>r.2
 | none=>st
section
variable {w0:World} {E0:Env} {av:Nat->Prop} {hA:∀ b,w0.heap.size<=b->av b} {nt:Nat} {K:AX->ASt->Prop} {st:ASt} {id:Nat} {l:List Oper} {draw:Bool} {ro:Option Nat} {df:Bool}
theorem zC (cs:List (Nat × CallSpec)) (kt kh:List Nat) {q:Prop} (hq:q) (hk:K .normal (sOf st (regRun Try.prog E0 T0 nt l draw cs kt kh st))) (h:qOf (regRun Try.prog E0 T0 nt l draw cs kt kh st)=q:=by kernel_rfl) :
  SWP ⟨Try.prog,w0,E0,av,hA,ro,df⟩ nt (.region id l.toArray draw) K st:=by
 rw [← h] at hq
 cases he:regRun Try.prog E0 T0 nt l draw cs kt kh st with
 | none=>rw [he] at hq; exact hq.elim
 | some x=>rw [he] at hk hq; exact swp_region T0_ok mixed he hq hk
theorem zR (kt kh:List Nat) {q:Prop} (hq:q) (hk:K .normal (sOf st (regRun Try.prog E0 T0 nt l draw [] kt kh st))) (h:qOf (regRun Try.prog E0 T0 nt l draw [] kt kh st)=q:=by kernel_rfl) :
  SWP ⟨Try.prog,w0,E0,av,hA,ro,df⟩ nt (.region id l.toArray draw) K st:=zC [] kt kh hq hk h
end
section
variable {C:Ctx} {nt:Nat} {K:AX->ASt->Prop} {st st2:ASt}
theorem zE (hE0:∀ j,C.E0.blk j=none/\C.E0.hdr j=none) (bs:List Nat) (mp:List (Nat × Src)) (kt kh:List Nat) {q:Prop} (hq:q) (hb:entB 0 st2 bs mp=true:=by kernel_rfl) (he:entK st st2 bs mp kt kh=q:=by kernel_rfl):Ent C nt st st2:=ent_q hE0 bs mp kt kh q hb he hq
theorem zEn (N:Nat) (hE0:∀ j,N<=j->C.E0.blk j=none/\C.E0.hdr j=none) (bs:List Nat) (mp:List (Nat × Src)) (kt kh:List Nat) {q:Prop} (hq:q) (hb:entB N st2 bs mp=true:=by kernel_rfl) (he:entK st st2 bs mp kt kh=q:=by kernel_rfl):Ent C nt st st2:=ent_n N hE0 bs mp kt kh q hb he hq
def loopZ (C:Ctx) (nt:Nat) (A:LoopAnn) (x:A.X) (K:AX->ASt->Prop):AX->ASt->Prop
 | .normal,st => ∃ x',Ent C nt st (A.S x')/\A.I x'/\A.mu x' < A.mu x
 | e,st=>K e st
theorem zL {c:Code} (A:LoopAnn) (h0:Ent C nt st (A.S A.x0)) (hI:A.I A.x0) (hb:∀ x,A.I x->SWP C nt c (loopZ C nt A x K) (A.S x)):SWP C nt (.loop c) K st :=
 swp_loop A.S A.I A.mu A.x0 h0 hI fun x hx=>swp_mono (hb x hx) fun e s h=>by cases e <;> exact h
theorem zn {A:LoopAnn} {x:A.X} (h:Ent C nt st (A.S (A.nx x))) (hI:A.I (A.nx x)) (hm:A.mu (A.nx x) < A.mu x):∃ x',Ent C nt st (A.S x')/\A.I x'/\A.mu x' < A.mu x:=⟨A.nx x,h,hI,hm⟩
theorem zI {c:Operand} {x y:Code} (b:Bool) (h1:b=true->SWP C nt x K st) (h2:b=false->SWP C nt y K st) (hc:opAV (look st.tm) c = .lit (.bool b):=by kernel_rfl):SWP C nt (.cond c x y) K st:=swp_cond b hc h1 h2
theorem zt {c:Operand} {x y:Code} (h1:SWP C nt x K st) (hc:opAV (look st.tm) c = .lit (.bool true):=by kernel_rfl):SWP C nt (.cond c x y) K st:=swp_cond true hc (fun _=>h1) (fun h=>by cases h)
theorem zf {c:Operand} {x y:Code} (h1:SWP C nt y K st) (hc:opAV (look st.tm) c = .lit (.bool false):=by kernel_rfl):SWP C nt (.cond c x y) K st:=swp_cond false hc (fun h=>by cases h) (fun _=>h1)
theorem zT {T:Tab} {rs:List ResultVar} {res:AV} (bs:List Nat) {q:Prop} (hq:q) (he:retQ T rs st res bs=q:=by kernel_rfl):RetK T rs res .ret st:=ret_q bs q he hq
theorem zO {T:Tab} {rs:List ResultVar} {res:AV} {hout:List (Nat × OB)} (st2:ASt) (he:Ent C nt st st2) {q:Prop} (h:q) (hq:retO T rs st2 res hout=q:=by kernel_rfl):RetO C nt T rs res hout .ret st:=ret_o st2 he q hq h
def fzS (b:Nat) (st:ASt):ASt :=
 match Heap.of st.hp b with
 | some (.cells _ cs)=>⟨st.tm.map (fun p=>(p.1,subP b cs p.2)),st.hp.filter (fun p=>p.1 != b),st.nx⟩
 | _=>st
def fzOK (b:Nat) (st:ASt):Bool :=
 match Heap.of st.hp b with
 | some (.cells _ cs)=>cs.all capOK
 | _=>false
theorem zF (b:Nat) (h:fzOK b st=true:=by kernel_rfl):Ent C nt st (fzS b st):=by
 unfold fzOK at h
 split at h
 ·rename_i t cs e
  refine ent_fz b t cs _ e h ?_
  unfold fzS
  rw [e]
 ·cases h
end
section
variable {C:Ctx} {nt:Nat} {st:ASt}
theorem zN {hout:List (Nat × OB)} (nx:Nat) (h:Ent C nt st ⟨[],hout,nx⟩) (hd:noDup (hout.map (·.1))=true:=by kernel_rfl):RndK C nt hout .normal st:=rnd_end nx h hd
theorem zM {hp:List (Nat × OB)} {nx:Nat} (h:Ent C nt st ⟨[],hp,nx⟩) (hd:noDup (hp.map (·.1))=true:=by kernel_rfl):RngK C nt hp nx .ret st:=rng_ret h hd
theorem zm {hp:List (Nat × OB)} {nx:Nat} (h:Ent C nt st ⟨[],hp,nx⟩) (hd:noDup (hp.map (·.1))=true:=by kernel_rfl):RngK C nt hp nx .normal st:=rng_norm h hd
end
theorem zG0 {w0:World} {E0:Env} {av:Nat->Prop} {hA:∀ b,w0.heap.size<=b->av b} {nt:Nat} {K:AX->ASt->Prop} {st:ASt} {g:Operand} {ps:List Tmp} {assign body:Code} {gf:FuncId} {fn:Func} {c:Code}
  (h:RangeH) (n1 nx2 kf:Nat) (kt:List Nat) (fa ca:List AV) (hf:Try.prog.funcs[gf]? = some fn) (hcall:Callable Try.prog gf) (hb:fn.body=some c)
  (hit:∀ C':Ctx,C'.P=Try.prog->(∀ j,h.ok j -> ∀ u,C'.E0.fns kf u->FnIO Try.prog C'.E0 u (h.Y j))->(∀ j,n1<=j->C'.E0.blk j=none/\C'.E0.hdr j=none)->SWP C' fn.ntmps c (RngK C' fn.ntmps h.hp nx2) ⟨argsTm (fa ++ .fn kf :: ca) 0,st.hp,st.nx⟩)
  (hbody:∀ j,h.ok j->(h.Y j).pre -> ∀ C':Ctx,C'.P=Try.prog->(∀ j,h.N<=j->C'.E0.blk j=none/\C'.E0.hdr j=none)->SWP C' nt assign (AsgK Try.prog h.N nt body (h.Y j).hout) ⟨ps.zip (h.Y j).args ++ (kt.map fun t=>(t,look st.tm t)),(h.Y j).hin,h.N⟩)
  (hk:K .normal ⟨st.tm,h.hp,nx2⟩) (hg:∀ (E':Env) (u:Value),Rel E' true (opAV (look st.tm) g) u -> ∃ fs us,u = .func (.func gf) (List.toArray fs) (List.toArray us)/\fs.length=fa.length/\us.length=ca.length/\(∀ k,Rel E' true (fa.getD k .any) (fs.getD k undef)) /\ ∀ k,Rel E' true (ca.getD k .any) (us.getD k undef))
  (hnx:st.nx=n1) (hrs:fn.results = #[]) (hn:Nat.ble (fa.length + ca.length + 1) fn.ntmps=true) (hp:(ps.all fun p=>Nat.ble (p + 1) nt)=true) (hnd:noDup ps=true)
  (hno:(noFnL fa && noFnL ca && (kt.all fun t=>noFn (look st.tm t)) && (st.hp.all fun q=>obNoFn q.2) && h.hp.all fun q=>obNoFn q.2)=true) (hR:∀ j,rndOK (h.Y j) (kt.map fun t=>(t,look st.tm t)) h.N ps.length=true) :
  SWP ⟨Try.prog,w0,E0,av,hA,none,true⟩ nt (.rangeFunc g ps.toArray assign body) K st :=
 swp_range0 h.hp nx2 kf h.N kt (fun s => ∃ j,h.ok j/\s=h.Y j) rfl rfl hg hf hb hrs hcall (Nat.le_of_ble_eq_true hn) (fun p hp'=>Nat.le_of_ble_eq_true (List.all_eq_true.1 hp p hp')) (noDup_nodup hnd) hno (by rintro s ⟨j,_,rfl⟩; exact hR j)
  (fun C' hC hY hE=>hit C' hC (fun j hj=>hY _ ⟨j,hj,rfl⟩) (by rw [hnx] at hE; exact hE)) (by rintro s ⟨j,hj,rfl⟩; exact hbody j hj) hk
theorem zG {w0:World} {E0:Env} {av:Nat->Prop} {hA:∀ b,w0.heap.size<=b->av b} {nt:Nat} {K:AX->ASt->Prop} {st:ASt} {g:Operand} {ps:List Tmp} {assign body:Code} {gf:FuncId} {fn:Func} {c:Code}
  (h:RangeH) (n1 nx2 kf:Nat) (kt:List Nat) (caps:List AV) (hf:Try.prog.funcs[gf]? = some fn) (hcall:Callable Try.prog gf) (hb:fn.body=some c)
  (hit:∀ C':Ctx,C'.P=Try.prog->(∀ j,h.ok j -> ∀ u,C'.E0.fns kf u->FnIO Try.prog C'.E0 u (h.Y j))->(∀ j,n1<=j->C'.E0.blk j=none/\C'.E0.hdr j=none)->SWP C' fn.ntmps c (RngK C' fn.ntmps h.hp nx2) ⟨argsTm ([] ++ .fn kf :: caps) 0,st.hp,st.nx⟩)
  (hbody:∀ j,h.ok j->(h.Y j).pre -> ∀ C':Ctx,C'.P=Try.prog->(∀ j,h.N<=j->C'.E0.blk j=none/\C'.E0.hdr j=none)->SWP C' nt assign (AsgK Try.prog h.N nt body (h.Y j).hout) ⟨ps.zip (h.Y j).args ++ (kt.map fun t=>(t,look st.tm t)),(h.Y j).hin,h.N⟩)
  (hk:K .normal ⟨st.tm,h.hp,nx2⟩) (hnx:st.nx=n1:=by kernel_rfl) (hrs:fn.results = #[]:=by rfl) (hg:opAV (look st.tm) g = .clo gf caps:=by kernel_rfl) (hn:Nat.ble (([]:List AV).length + (caps:List AV).length + 1) fn.ntmps=true:=by kernel_rfl) (hp:(ps.all fun p=>Nat.ble (p + 1) nt)=true:=by kernel_rfl) (hnd:noDup ps=true:=by kernel_rfl)
  (hno:(noFnL [] && noFnL caps && (kt.all fun t=>noFn (look st.tm t)) && (st.hp.all fun q=>obNoFn q.2) && h.hp.all fun q=>obNoFn q.2)=true:=by kernel_rfl) (hR:∀ j,rndOK (h.Y j) (kt.map fun t=>(t,look st.tm t)) h.N ps.length=true:=by (intro _; kernel_rfl)) :
  SWP ⟨Try.prog,w0,E0,av,hA,none,true⟩ nt (.rangeFunc g ps.toArray assign body) K st:=zG0 h n1 nx2 kf kt [] caps hf hcall hb hit hbody hk (rng_clo hg) hnx hrs hn hp hnd hno hR
theorem zGv {w0:World} {E0:Env} {av:Nat->Prop} {hA:∀ b,w0.heap.size<=b->av b} {nt:Nat} {K:AX->ASt->Prop} {st:ASt} {g:Operand} {ps:List Tmp} {assign body:Code} {gf:FuncId} {fn:Func} {c:Code}
  (h:RangeH) (n1 nx2 kf:Nat) (kt:List Nat) (caps:List AV) (hf:Try.prog.funcs[gf]? = some fn) (hcall:Callable Try.prog gf) (hb:fn.body=some c)
  (hit:∀ C':Ctx,C'.P=Try.prog->(∀ j,h.ok j -> ∀ u,C'.E0.fns kf u->FnIO Try.prog C'.E0 u (h.Y j))->(∀ j,n1<=j->C'.E0.blk j=none/\C'.E0.hdr j=none)->SWP C' fn.ntmps c (RngK C' fn.ntmps h.hp nx2) ⟨argsTm ([AV.agg caps] ++ .fn kf :: []) 0,st.hp,st.nx⟩)
  (hbody:∀ j,h.ok j->(h.Y j).pre -> ∀ C':Ctx,C'.P=Try.prog->(∀ j,h.N<=j->C'.E0.blk j=none/\C'.E0.hdr j=none)->SWP C' nt assign (AsgK Try.prog h.N nt body (h.Y j).hout) ⟨ps.zip (h.Y j).args ++ (kt.map fun t=>(t,look st.tm t)),(h.Y j).hin,h.N⟩)
  (hk:K .normal ⟨st.tm,h.hp,nx2⟩) (hnx:st.nx=n1:=by kernel_rfl) (hrs:fn.results = #[]:=by rfl) (hg:opAV (look st.tm) g = .mtv gf caps:=by kernel_rfl) (hn:Nat.ble (([AV.agg caps]:List AV).length + ([]:List AV).length + 1) fn.ntmps=true:=by kernel_rfl) (hp:(ps.all fun p=>Nat.ble (p + 1) nt)=true:=by kernel_rfl) (hnd:noDup ps=true:=by kernel_rfl)
  (hno:(noFnL [AV.agg caps] && noFnL [] && (kt.all fun t=>noFn (look st.tm t)) && (st.hp.all fun q=>obNoFn q.2) && h.hp.all fun q=>obNoFn q.2)=true:=by kernel_rfl) (hR:∀ j,rndOK (h.Y j) (kt.map fun t=>(t,look st.tm t)) h.N ps.length=true:=by (intro _; kernel_rfl)) :
  SWP ⟨Try.prog,w0,E0,av,hA,none,true⟩ nt (.rangeFunc g ps.toArray assign body) K st:=zG0 h n1 nx2 kf kt [AV.agg caps] [] hf hcall hb hit hbody hk (rng_mtv hg) hnx hrs hn hp hnd hno hR
end Go.Ab
namespace Go.Ab
theorem getD_lt {α:Type} (l:List α) (d:α) {i:Nat} (h:i < l.length):l.getD i d=l[i]:=by
 rw [List.getD_eq_getElem?_getD,List.getElem?_eq_getElem h]; rfl
theorem getD_ge {α:Type} (l:List α) (d:α) {i:Nat} (h:l.length<=i):l.getD i d=d:=by
 rw [List.getD_eq_getElem?_getD,List.getElem?_eq_none h]; rfl
theorem getD_mem {α:Type} (l:List α) (d:α) {i:Nat} (h:i < l.length):l.getD i d ∈ l:=by
 rw [getD_lt l d h]; exact List.getElem_mem h
theorem take_succ {α:Type} (l:List α) (d:α) {i:Nat} (h:i < l.length):l.take (i + 1)=l.take i ++ [l.getD i d]:=by
 rw [getD_lt l d h,List.take_add_one,List.getElem?_eq_getElem h]; rfl
theorem all_idx {α:Type} (l:List α) (d:α) (p:α->Bool) (h:∀ j,j < l.length->p (l.getD j d)=true):l.all p=true:=by
 rw [List.all_eq_true]
 intro x hx
 obtain ⟨j,hj,rfl⟩:=List.getElem_of_mem hx
 rw [← getD_lt l d hj]; exact h j hj
theorem idx_all {α:Type} {l:List α} (d:α) {p:α->Bool} (h:l.all p=true) {j:Nat} (hj:j < l.length):p (l.getD j d)=true:=by
 rw [List.all_eq_true] at h
 exact h _ (getD_mem l d hj)
theorem not_all {α:Type} (l:List α) (d:α) (p:α->Bool) {j:Nat} (hj:j < l.length) (h:p (l.getD j d)=false):l.all p=false:=by
 cases e:l.all p with
 | false=>rfl
 | true=>rw [idx_all d e hj] at h; cases h
theorem any_idx {α:Type} (l:List α) (d:α) (p:α->Bool) (h:∀ j,j < l.length->p (l.getD j d)=false):l.any p=false:=by
 rw [List.any_eq_false]
 intro x hx
 obtain ⟨j,hj,rfl⟩:=List.getElem_of_mem hx
 rw [← getD_lt l d hj,h j hj]; simp
theorem some_any {α:Type} (l:List α) (d:α) (p:α->Bool) {j:Nat} (hj:j < l.length) (h:p (l.getD j d)=true):l.any p=true:=by
 rw [List.any_eq_true]
 exact ⟨_,getD_mem l d hj,h⟩
theorem ext_getD {α:Type} {a b:List α} (d:α) (hl:a.length=b.length) (h:∀ j,j < a.length->a.getD j d=b.getD j d):a=b:=by
 refine List.ext_getElem hl fun j h1 h2 => ?_
 rw [← getD_lt a d h1,← getD_lt b d h2]; exact h j h1
theorem lt_succ_cases {P:Nat->Prop} {i:Nat} (h:∀ j,j < i->P j) (hi:P i):∀ j,j < i + 1->P j:=by
 intro j hj
 by_cases e:j=i
 ·subst e; exact hi
 ·exact h j (by omega)
theorem foldl_range_succ {α:Type} (f:α->Nat->α) (a:α) (n:Nat):(List.range (n + 1)).foldl f a=f ((List.range n).foldl f a) n:=by
 rw [List.range_succ,List.foldl_append]; rfl
theorem getD_append {α:Type} (l m:List α) (d:α) (i:Nat):(l ++ m).getD i d=if i < l.length then l.getD i d else m.getD (i - l.length) d:=by
 simp only [List.getD_eq_getElem?_getD,List.getElem?_append]
 split <;> rfl
theorem catF_eq {α:Type} (l m:List α) (d:α) (F:α->List AV) {n:Nat} {f g:Nat->List AV} (hn:n=l.length) (hf:∀ k,k < l.length->f k=F (l.getD k d)) (hg:∀ k,k < m.length->g k=F (m.getD k d)) {i:Nat} (hi:i < l.length + m.length):catF n f g i=F ((l ++ m).getD i d):=by
 unfold catF
 rw [getD_append,hn]
 split
 ·exact hf i ‹_›
 ·exact hg _ (by omega)
theorem catF_one {α:Type} (l:List α) (x:α) (d:α) (F:α->List AV) {n:Nat} {f:Nat->List AV} {cells dd:List AV} (hn:n=l.length) (hf:∀ k,k < l.length->f k=F (l.getD k d)) (hc:cells=F x) {i:Nat} (hi:i < l.length + 1):catF n f (fun j=>[cells].getD j dd) i=F ((l ++ [x]).getD i d):=by
 refine catF_eq l [x] d F hn hf (fun k hk => ?_) (by simpa using hi)
 have:k=0:=by simp at hk; omega
 subst this
 exact hc
theorem catF_idx (F:Nat->List AV) {n:Nat} {cells dd:List AV} (hc:cells=F n) {i:Nat} (hi:i < n + 1):catF n F (fun j=>[cells].getD j dd) i=F i:=by
 unfold catF
 split
 ·rfl
 ·have:i=n:=by omega
  subst this
  rw [Nat.sub_self]; exact hc
theorem nbor2 (a b:Bool):(bif !a then true else !b) = !(a && b):=by cases a <;> rfl
theorem nbor3 (a b c:Bool):(bif bif !a then true else !b then true else !c) = !(a && b && c):=by cases a <;> cases b <;> rfl
end Go.Ab
namespace Go.Sh
structure Span where
 lo:Int
 hi:Int
 deriving DecidableEq,Inhabited
def within (n lo hi:Int):Bool:=decide (lo<=n) && decide (n<=hi)
def isSpan (s:Span) (most:Int):Bool:=within s.hi 0 most && within s.lo 0 s.hi
def earlier:List Int->List Int->Bool
 | x :: xs,y :: ys=>if x=y then earlier xs ys else decide (x < y)
 | _,_=>false
def sumI (l:List Int):Int:=l.foldl (· + ·) 0
theorem within_iff {n lo hi:Int}:within n lo hi=true ↔ lo<=n/\n<=hi:=by simp [within]
theorem sumI_take (l:List Int) {k:Nat} (h:k < l.length):sumI (l.take (k + 1))=sumI (l.take k) + l.getD k 0:=by
 unfold sumI
 rw [Go.Ab.take_succ l 0 h,List.foldl_append]; rfl
end Go.Sh
namespace Go.En
open Go Go.Ab Go.Sh
def aInts (l:List Int):AV := .sl 1 l.length (fun i=>[iv (l.getD i 0)])
def aIntss (l:List (List Int)):AV := .sl 1 l.length (fun i=>[aInts (l.getD i [])])
def cSpan (s:Span):List AV:=[iv s.lo,iv s.hi]
abbrev vSpan (s:Span):AV := .agg (cSpan s)
end Go.En
namespace Go.Ab
open Go Go.RowKit Go.Sh Go.En
abbrev big:Nat:=1125899906842624
def s46 (n lo hi:Int):CallSpec:={ args:=[iv n,iv lo,iv hi],res:=bv (within n lo hi) }
def s53 (s:Span) (most:Int):CallSpec:={ args:=[vSpan s,iv most],res:=bv (isSpan s most) }
def s65 (l:List Int):CallSpec:={ args:=[aInts l],res:=iv (sumI l),pre:=l.length<=big /\ ∀ k,k<=l.length->inI (sumI (l.take k)) }
def h65 (l:List Int):Hint:={ X:=Nat,M:=fun i=>[(4,iv i),(3,iv (sumI (l.take i)))],I:=fun i=>i<=l.length,mu:=fun i=>l.length - i,x0:=(0:Nat),nx:=fun i=>i + 1 }
end Go.Ab
namespace Go.Ab
open Go Go.RowKit Go.Proofs Go.Sh Go.En
theorem w46 (n:Int) (lo:Int) (hi:Int)
  (o0:(bif decide (lo<=n) then decide (n<=hi) else false)=within n lo hi) :
  Triple Try.prog 46 (s46 n lo hi):=by
 refine triple_of Try.func46 rfl Try.call46 T0_ok _ rfl rfl rfl rfl (Nat.le_of_ble_eq_true (by kernel_rfl)) (fun _ _ _ _ h=>h) ?_
 intro _ C hC _ hE
 obtain ⟨P,w0,E0,av,hA,ro,df⟩:=C
 obtain ⟨rfl,rfl,rfl⟩:=hC
 refine swp_seq ?_
 refine zR [0,1,2] [] (Ak 1 tv) ?_
 refine swp_seq ?_
 refine zR [6] [] (Ak 4 (An (fun (y0:decide (lo<=n)=true)=>(An (Ak 1 tv) tv)) (An (fun (y1:decide (lo<=n)=true)=>(An (Ak 1 tv) tv)) (An (fun (y2:decide (lo<=n)=true)=>(An (An (fun (y3:decide (lo<=n)=true)=>y2) (An (fun (y4:decide (lo<=n)=true)=>y2) tv)) tv)) (An (An (fun (y5:decide (lo<=n)=true)=>y5) (fun (y6:decide (lo<=n)=false)=>tv)) (Ak 1 tv)))))) ?_
 refine swp_ret ?_
 exact zT [] (An (Ak 1 tv) (An (An (cb (o0)) (zr nilN)) (An (zr true) (An (zr true) (zr true)))))
theorem t46 (n lo hi:Int):Triple Try.prog 46 (s46 n lo hi):=by
 refine w46 n lo hi ?_
 unfold within; cases decide (lo<=n) <;> rfl
theorem w53 (s:Span) (most:Int)
  (o0:(bif within s.hi 0 most then within s.lo 0 s.hi else false)=isSpan s most) :
  Triple Try.prog 53 (s53 s most):=by
 refine triple_of Try.func53 rfl Try.call53 T0_ok _ rfl rfl rfl rfl (Nat.le_of_ble_eq_true (by kernel_rfl)) (fun _ _ _ _ h=>h) ?_
 intro _ C hC _ hE
 obtain ⟨P,w0,E0,av,hA,ro,df⟩:=C
 obtain ⟨rfl,rfl,rfl⟩:=hC
 refine swp_seq ?_
 refine zR [1,2] [0] (Ak 2 tv) ?_
 refine swp_seq ?_
 refine zC ([(3,CallSpec.eq (s46 s.hi 0 most) [true,true,true]),(9,CallSpec.eq (s46 s.lo 0 s.hi) [true,true,true])]) [4] [] (Ak 3 (An (An (An (zr (iv s.hi)) (An (zr (iv 0)) (An (zr (iv most)) tv))) (An (t46 s.hi (0) (most)) (Ak 2 (fun (i0:Env)=>tv)))) (Ak 1 (An (fun (y1:within s.hi 0 most=true)=>(An (Ak 1 tv) tv)) (An (fun (y2:within s.hi 0 most=true)=>(An (An (fun (y3:within s.hi 0 most=true)=>y2) tv) tv)) (An (fun (y4:within s.hi 0 most=true)=>(An (Ak 1 tv) tv)) (An (fun (y5:within s.hi 0 most=true)=>(An (An (fun (y6:within s.hi 0 most=true)=>y5) tv) tv)) (An (fun (y7:within s.hi 0 most=true)=>(An (Ak 1 (An (fun (y8:within s.hi 0 most=true)=>y7) (Ak 1 (An (fun (y9:within s.hi 0 most=true)=>y7) tv)))) (An (An (zr (iv s.lo)) (An (zr (iv 0)) (An (zr (iv s.hi)) tv))) (An (t46 s.lo (0) s.hi) (Ak 2 (fun (i10:Env)=>tv)))))) (An (An (fun (y11:within s.hi 0 most=true)=>y11) (fun (y12:within s.hi 0 most=false)=>tv)) (Ak 1 tv)))))))))) ?_
 refine swp_ret ?_
 exact zT [] (An (Ak 1 tv) (An (An (cb (o0)) (zr nilN)) (An (zr true) (An (zr true) (zr true)))))
theorem t53 (s:Span) (most:Int):Triple Try.prog 53 (s53 s most):=by
 apply w53
 unfold isSpan; cases within s.hi 0 most <;> rfl
abbrev q0 (l:List Int) (Pq:Prop):Prop:=(l.length<=big /\ ∀ (k:Nat),k<=l.length->inI (sumI (List.take k l)))->Pq
abbrev q1 (l:List Int) (x0:Nat) (Pq:Prop):Prop:=x0<=l.length->decide ((x0:Int) < (↑(l.length):Int))=true->Pq
theorem w65 (l:List Int)
 (o0:q0 l (0=(↑0:Int)))
 (o1:q0 l (0=sumI (List.take 0 l)))
 (o2:q0 l (0<=l.length))
 (o3:q0 l (∀ (x0:Nat),q1 l x0 (0<=(x0:Int))))
 (o4:q0 l (∀ (x0:Nat),q1 l x0 ((x0:Int) < (↑(l.length):Int))))
 (o5:q0 l (∀ (x0:Nat),q1 l x0 (inI (sumI (List.take x0 l) + l.getD x0 0))))
 (o6:q0 l (∀ (x0:Nat),q1 l x0 (inI ((x0:Int) + 1))))
 (o7:q0 l (∀ (x0:Nat),q1 l x0 ((x0:Int) + 1=(↑(x0 + 1):Int))))
 (o8:q0 l (∀ (x0:Nat),q1 l x0 (sumI (List.take x0 l) + l.getD x0 0=sumI (List.take (x0 + 1) l))))
 (o9:q0 l (∀ (x0:Nat),q1 l x0 (x0 + 1<=l.length)))
 (o10:q0 l (∀ (x0:Nat),q1 l x0 (l.length - (x0 + 1) < l.length - x0)))
 (o11:q0 l (∀ (x0:Nat),x0<=l.length->decide ((x0:Int) < (↑(l.length):Int))=false->sumI (List.take x0 l)=sumI l)) :
  Triple Try.prog 65 (s65 l):=by
 refine triple_of Try.func65 rfl Try.call65 T0_ok _ rfl rfl rfl rfl (Nat.le_of_ble_eq_true (by kernel_rfl)) (fun _ _ _ _ h=>h) ?_
 intro hpre C hC _ hE
 obtain ⟨P,w0,E0,av,hA,ro,df⟩:=C
 obtain ⟨rfl,rfl,rfl⟩:=hC
 refine swp_seq ?_
 refine zR [0] [] (Ak 1 tv) ?_
 refine swp_seq ?_
 refine zR [0,3] [] (Ak 1 tv) ?_
 refine swp_seq ?_
 refine swp_seq ?_
 refine zR [0,3,4] [] (Ak 1 tv) ?_
 refine swp_block ?_
 refine zL (Hint.ann (h65 l) [(0,aInts l)] [] 10024) (zE hE [] [] [0] [] (An (An (An (zr (aInts l)) (zr true)) (An (An (ci (o0 hpre)) (zr nilN)) (An (An (ci (o1 hpre)) (zr nilN)) tv))) (Ak 1 (An (zr true) (zr true))))) (o2 hpre) (fun (x0:Nat) hx0 => ?_)
 refine swp_seq ?_
 refine swp_seq ?_
 refine zR [0,4,3,8] [] (Ak 4 tv) ?_
 refine zI (decide ((x0:Int) < (↑(l.length):Int))) (fun y1 => ?_) (fun y1 => ?_)
 ·refine swp_skip ?_
  refine swp_seq ?_
  refine swp_block ?_
  refine zR [0,4,3] [] (Ak 3 (An (An (o3 hpre x0 hx0 y1) (o4 hpre x0 hx0 y1)) (Ak 1 (An (o5 hpre x0 hx0 y1) (Ak 1 tv))))) ?_
  refine zR [0,4,3] [] (Ak 1 (An (o6 hpre x0 hx0 y1) (Ak 1 tv))) ?_
  exact zn (zE hE [] [] [0] [] (An (An (An (zr (aInts l)) (zr true)) (An (An (ci (o7 hpre x0 hx0 y1)) (zr nilN)) (An (An (ci (o8 hpre x0 hx0 y1)) (zr nilN)) tv))) (Ak 1 (An (zr true) (zr true))))) (o9 hpre x0 hx0 y1) (o10 hpre x0 hx0 y1)
 ·refine swp_exit ?_
  refine swp_seq ?_
  refine zR [2] [] (Ak 2 tv) ?_
  refine swp_ret ?_
  exact zT [] (An (Ak 1 tv) (An (An (ci (o11 hpre x0 hx0 y1)) (zr nilN)) (An (zr true) (An (zr true) (zr true)))))
theorem t65 (l:List Int):Triple Try.prog 65 (s65 l):=by
 apply w65
 all_goals (try delta q0 q1)
 case o5=>intro hp x hx h; simp only [decide_eq_true_eq] at h; rw [← sumI_take l (by omega)]; exact hp.2 _ (by omega)
 case o8=>intro hp x hx h; simp only [decide_eq_true_eq] at h; exact (sumI_take l (by omega)).symm
 case o11=>intro hp x hx h; simp only [decide_eq_false_iff_not] at h; rw [List.take_of_length_le (by omega)]
 all_goals (try ((repeat intro _) <;> (try simp only [Bool.cond_true_left,Bool.cond_false_right,Bool.not_not,Bool.not_eq_true',Bool.not_eq_false',Bool.or_eq_true,Bool.or_eq_false_iff,Bool.and_eq_true,decide_eq_true_eq,decide_eq_false_iff_not,inI,big] at *) <;> first | (exact rfl) | omega | (exact ⟨Nat.zero_le _,fun j hj=>absurd hj (Nat.not_lt_zero j)⟩) | (simp_all; done) | (simp_all; omega)))
end Go.Ab
namespace Go.Sh
open Go.Ab
structure Pot where
 pounds:Int
 tin:Span
 anti:Span
 deriving DecidableEq,Inhabited
structure Pig where
 pounds:Int
 tin:Int
 anti:Int
 pence:Int
 many:Int
 deriving DecidableEq,Inhabited
structure Shop where
 pot:Pot
 room:Int
 tinP:Span
 antiP:Span
 pigs:List Pig
 deriving DecidableEq,Inhabited
def pig (s:Shop) (i:Nat):Pig:=s.pigs.getD i default
def okPot (p:Pot):Bool:=within p.pounds 0 400 && isSpan p.tin p.pounds && isSpan p.anti (p.pounds - p.tin.hi)
def okPig (p:Pig):Bool:=within p.pounds 1 40 && within p.tin 0 p.pounds && within p.anti 0 (p.pounds - p.tin) && within p.pence 0 99 && within p.many 0 5
def okHeadM (s:Shop):Bool:=okPot s.pot && within s.room s.pot.pounds 999 && isSpan s.tinP 1000 && isSpan s.antiP 1000 && decide ((s.pigs.length:Int)<=4)
def okMTo (s:Shop) (n:Nat):Bool:=okHeadM s && (List.range n).all fun j=>okPig (pig s j)
def okShop (s:Shop):Bool:=okMTo s s.pigs.length
def checkM (s:Shop):Int:=if okShop s then 0 else 10
def openM (s:Shop) (is:Bool):Int:=if okShop s then (if is then 0 else 1) else 10
def sumMT (s:Shop) (add:List Int) (g:Pig->Int):Nat->Int
 | 0=>0
 | n + 1=>sumMT s add g n + add.getD n 0 * g (pig s n)
def sumM (s:Shop) (add:List Int) (g:Pig->Int):Int:=sumMT s add g add.length
def addAt (s:Shop) (add:List Int) (i:Nat):Bool:=within (add.getD i 0) 0 (pig s i).many
def isAddM (s:Shop) (add:List Int):Bool:=decide (add.length=s.pigs.length) && ((List.range add.length).all (addAt s add) && decide (s.pot.pounds + sumM s add Pig.pounds<=s.room))
def shiftM (s:Span) (n:Int):Span:=⟨s.lo + n,s.hi + n⟩
def afterM (s:Shop) (add:List Int):Pot:=⟨s.pot.pounds + sumM s add Pig.pounds,shiftM s.pot.tin (sumM s add Pig.tin),shiftM s.pot.anti (sumM s add Pig.anti)⟩
def failM (s:Shop) (p:Pot) (n:Int):Bool :=
 if n=1 then decide (1000 * p.tin.lo < p.pounds * s.tinP.lo)
 else if n=2 then decide (1000 * p.tin.hi > p.pounds * s.tinP.hi)
 else if n=3 then decide (1000 * p.anti.lo < p.pounds * s.antiP.lo)
 else decide (1000 * p.anti.hi > p.pounds * s.antiP.hi)
def safeM (s:Shop) (p:Pot):Bool := !failM s p 1 && !failM s p 2 && !failM s p 3 && !failM s p 4
def justM (q:Span) (all:Int):Span:=⟨(all * q.lo + 999).tdiv 1000,(all * q.hi).tdiv 1000⟩
def meetM (a b:Span):Bool:=decide (max a.lo b.lo<=min a.hi b.hi)
def leadP (p:Pot) (k:Int):Pot:={ p with pounds:=p.pounds + k }
def safeN (s:Shop) (add:List Int):Int :=
 if openM s (isAddM s add)=0 then (if safeM s (afterM s add) then 1 else if !meetM (afterM s add).tin (justM s.tinP (afterM s add).pounds) || !meetM (afterM s add).anti (justM s.antiP (afterM s add).pounds) then 2 else 3) else 0
def leadN (s:Shop) (add:List Int):Nat:=(s.room - (afterM s add).pounds + 1).toNat
def leadTo (s:Shop) (add:List Int):Nat->Span
 | 0=>⟨-1,0⟩
 | k + 1=>if safeM s (leadP (afterM s add) k) then ⟨if (leadTo s add k).lo < 0 then k else (leadTo s add k).lo,k⟩ else leadTo s add k
def leadS (s:Shop) (add:List Int):Span:=if openM s (isAddM s add)=0 then (if (leadTo s add (leadN s add)).lo < 0 then ⟨0,0⟩ else leadTo s add (leadN s add)) else ⟨0,0⟩
def leadE (s:Shop) (add:List Int):Int:=if openM s (isAddM s add)=0 then (if (leadTo s add (leadN s add)).lo < 0 then 3 else 0) else openM s (isAddM s add)
structure SoundM (s:Shop):Prop where
 pounds:0<=s.pot.pounds/\s.pot.pounds<=400
 tin:0<=s.pot.tin.lo/\s.pot.tin.lo<=s.pot.tin.hi/\s.pot.tin.hi<=400
 anti:0<=s.pot.anti.lo/\s.pot.anti.lo<=s.pot.anti.hi/\s.pot.anti.hi<=400
 room:s.pot.pounds<=s.room/\s.room<=999
 tinP:0<=s.tinP.lo/\s.tinP.lo<=s.tinP.hi/\s.tinP.hi<=1000
 antiP:0<=s.antiP.lo/\s.antiP.lo<=s.antiP.hi/\s.antiP.hi<=1000
 len:s.pigs.length<=4
 pig:∀ i,i < s.pigs.length->(1<=(pig s i).pounds/\(pig s i).pounds<=40)/\(0<=(pig s i).tin/\(pig s i).tin<=40)/\(0<=(pig s i).anti/\(pig s i).anti<=40)/\(0<=(pig s i).pence/\(pig s i).pence<=99)/\0<=(pig s i).many/\(pig s i).many<=5
theorem isSpan_get {s:Span} {n:Int} (h:isSpan s n=true):0<=s.lo/\s.lo<=s.hi/\s.hi<=n:=by
 unfold isSpan at h
 rw [Bool.and_eq_true,within_iff,within_iff] at h
 omega
theorem sound_shop {s:Shop} (h:okShop s=true):SoundM s:=by
 unfold okShop okMTo okHeadM okPot at h
 simp only [Bool.and_eq_true,decide_eq_true_eq,within_iff] at h
 obtain ⟨⟨⟨⟨⟨⟨⟨h1,h2⟩,h3⟩,h4⟩,h5⟩,h6⟩,h7⟩,h8⟩:=h
 have h2:=isSpan_get h2
 have h3:=isSpan_get h3
 have h5:=isSpan_get h5
 have h6:=isSpan_get h6
 refine ⟨h1,by omega,by omega,h4,h5,h6,by omega,fun i hi => ?_⟩
 rw [List.all_eq_true] at h8
 have:=h8 i (List.mem_range.2 hi)
 unfold okPig at this
 simp only [Bool.and_eq_true,within_iff] at this
 omega
def AddOK (s:Shop) (add:List Int):Prop:=SoundM s/\add.length=s.pigs.length /\ ∀ i,i < add.length->0<=add.getD i 0/\add.getD i 0<=5
theorem add_ok {s:Shop} {add:List Int} (hs:SoundM s) (h1:add.length=s.pigs.length) (h:∀ i,i < add.length->addAt s add i=true):AddOK s add:=by
 refine ⟨hs,h1,fun i hi => ?_⟩
 have h2:=h i hi
 have h3:=hs.pig i (by omega)
 unfold addAt at h2
 rw [within_iff] at h2
 omega
theorem isAdd_ok {s:Shop} {add:List Int} (hs:SoundM s) (h:isAddM s add=true):AddOK s add:=by
 unfold isAddM at h
 simp only [Bool.and_eq_true,decide_eq_true_eq,List.all_eq_true] at h
 exact add_ok hs h.1 fun i hi=>h.2.1 i (List.mem_range.2 hi)
theorem mul_in {a b m n:Int} (h1:0<=a/\a<=m) (h2:0<=b/\b<=n):0<=a * b/\a * b<=m * n :=
 ⟨Int.mul_nonneg h1.1 h2.1,Int.mul_le_mul h1.2 h2.2 h2.1 (by omega)⟩
theorem sumMT_in {s:Shop} {add:List Int} (h:AddOK s add) {g:Pig->Int} (hg:∀ i,i < s.pigs.length->0<=g (pig s i)/\g (pig s i)<=99):∀ n,n<=add.length->0<=sumMT s add g n/\sumMT s add g n<=495 * n:=by
 intro n
 induction n with
 | zero=>intro _; exact ⟨Int.le_refl _,Int.le_refl _⟩
 | succ n ih =>
  intro hn
  have h1:=ih (by omega)
  have h2:=mul_in (h.2.2 n (by omega)) (hg n (by have:=h.2.1; omega))
  show 0<=sumMT s add g n + _/\sumMT s add g n + _<=_
  omega
def leadPig (n:Int):Pig:=⟨1,0,0,0,n⟩
def withPig (s:Shop) (n:Int):Shop:={ s with pigs:=s.pigs ++ [leadPig n] }
theorem pig_with {s:Shop} {n:Int} {i:Nat} (h:i < s.pigs.length):pig (withPig s n) i=pig s i:=by
 unfold pig withPig
 simp only [List.getD_eq_getElem?_getD]
 rw [List.getElem?_append_left h]
theorem pig_last (s:Shop) (n:Int):pig (withPig s n) s.pigs.length=leadPig n:=by
 unfold pig withPig
 simp [List.getD_eq_getElem?_getD]
theorem sum_with {s:Shop} {add:List Int} {n:Int} (hl:add.length=s.pigs.length) (g:Pig->Int):sumM (withPig s n) (add ++ [n]) g=sumM s add g + n * g (leadPig n):=by
 have h:∀ k,k<=add.length->sumMT (withPig s n) (add ++ [n]) g k=sumMT s add g k:=by
  intro k
  induction k with
  | zero=>intro _; rfl
  | succ k ih =>
   intro hk
   show sumMT (withPig s n) (add ++ [n]) g k + _=sumMT s add g k + _
   rw [ih (by omega),pig_with (by omega),show (add ++ [n]).getD k 0=add.getD k 0 by simp only [List.getD_eq_getElem?_getD]; rw [List.getElem?_append_left (by omega)]]
 unfold sumM
 rw [List.length_append]
 show sumMT _ _ g add.length + (add ++ [n]).getD add.length 0 * g (pig (withPig s n) add.length)=_
 rw [h _ (Nat.le_refl _),hl,pig_last,← hl]
 simp [List.getD_eq_getElem?_getD]
theorem after_with {s:Shop} {add:List Int} {n:Int} (hl:add.length=s.pigs.length):afterM (withPig s n) (add ++ [n])=leadP (afterM s add) n:=by
 unfold afterM leadP
 rw [sum_with hl,sum_with hl,sum_with hl]
 show (⟨s.pot.pounds + (sumM s add Pig.pounds + n * 1),shiftM s.pot.tin (sumM s add Pig.tin + n * 0),shiftM s.pot.anti (sumM s add Pig.anti + n * 0)⟩:Pot)=⟨s.pot.pounds + sumM s add Pig.pounds + n,_,_⟩
 rw [Int.mul_one,Int.mul_zero,Int.add_zero,Int.add_zero,Int.add_assoc]
theorem safe_with (s:Shop) (n:Int) (p:Pot):safeM (withPig s n) p=safeM s p:=rfl
theorem safe_iff {s:Shop} {p:Pot}:safeM s p=true ↔ (p.pounds * s.tinP.lo<=1000 * p.tin.lo/\1000 * p.tin.hi<=p.pounds * s.tinP.hi)/\p.pounds * s.antiP.lo<=1000 * p.anti.lo/\1000 * p.anti.hi<=p.pounds * s.antiP.hi:=by
 unfold safeM failM
 simp only [Bool.and_eq_true,Bool.not_eq_true',if_pos,decide_eq_false_iff_not]
 rw [if_neg (by omega),if_neg (by omega),if_neg (by omega),if_neg (by omega),if_neg (by omega),if_neg (by omega)]
 simp only [if_true,decide_eq_false_iff_not]
 omega
theorem safe_mid {s:Shop} (hs:SoundM s) {p:Pot} {a b c:Int} (ha:safeM s (leadP p a)=true) (hc:safeM s (leadP p c)=true) (h1:a<=b) (h2:b<=c):safeM s (leadP p b)=true:=by
 rw [safe_iff] at ha hc ⊢
 obtain ⟨⟨a1,a2⟩,a3,a4⟩:=ha
 obtain ⟨⟨c1,c2⟩,c3,c4⟩:=hc
 have t1:(p.pounds + b) * s.tinP.lo<=(p.pounds + c) * s.tinP.lo:=Int.mul_le_mul_of_nonneg_right (by omega) hs.tinP.1
 have t2:(p.pounds + a) * s.tinP.hi<=(p.pounds + b) * s.tinP.hi:=Int.mul_le_mul_of_nonneg_right (by omega) (by have:=hs.tinP; omega)
 have t3:(p.pounds + b) * s.antiP.lo<=(p.pounds + c) * s.antiP.lo:=Int.mul_le_mul_of_nonneg_right (by omega) hs.antiP.1
 have t4:(p.pounds + a) * s.antiP.hi<=(p.pounds + b) * s.antiP.hi:=Int.mul_le_mul_of_nonneg_right (by omega) (by have:=hs.antiP; omega)
 exact ⟨⟨Int.le_trans t1 c1,Int.le_trans a2 t2⟩,Int.le_trans t3 c3,Int.le_trans a4 t4⟩
theorem leadTo_is {s:Shop} {add:List Int}:∀ k:Nat,((leadTo s add k).lo < 0/\(leadTo s add k)=⟨-1,0⟩ /\ ∀ j:Nat,j < k->safeM s (leadP (afterM s add) j)=false) ∨
    (0<=(leadTo s add k).lo/\(leadTo s add k).lo<=(leadTo s add k).hi/\(leadTo s add k).hi < k/\safeM s (leadP (afterM s add) (leadTo s add k).lo)=true/\safeM s (leadP (afterM s add) (leadTo s add k).hi)=true ∧
      ∀ j:Nat,j < k->safeM s (leadP (afterM s add) j)=true->(leadTo s add k).lo<=j/\(j:Int)<=(leadTo s add k).hi):=by
  intro k
  induction k with
  | zero=>exact .inl ⟨by show (-1:Int) < 0; omega,rfl,fun j hj=>absurd hj (Nat.not_lt_zero _)⟩
  | succ k ih =>
    have e:leadTo s add (k + 1)=if safeM s (leadP (afterM s add) k) then ⟨if (leadTo s add k).lo < 0 then k else (leadTo s add k).lo,k⟩ else leadTo s add k:=rfl
    rw [e]
    by_cases h:safeM s (leadP (afterM s add) k)=true
    · rw [if_pos h]
      rcases ih with ⟨h1,h2,h3⟩ | ⟨h1,h2,h3,h4,h5,h6⟩
      · rw [if_pos h1]
        refine .inr ⟨by show (0:Int)<=k; omega,Int.le_refl _,by show (k:Int) < ((k + 1:Nat):Int); omega,h,h,fun j hj hsj => ?_⟩
        have:j=k:=by
          by_cases hjk:j < k
          · rw [h3 j hjk] at hsj; cases hsj
          · omega
        subst this; exact ⟨Int.le_refl _,Int.le_refl _⟩
      · rw [if_neg (by omega)]
        refine .inr ⟨h1,by show (leadTo s add k).lo<=k; omega,by show (k:Int) < ((k + 1:Nat):Int); omega,h4,h,fun j hj hsj => ?_⟩
        by_cases hjk:j < k
        · have:=h6 j hjk hsj
          exact ⟨this.1,by show (j:Int)<=k; omega⟩
        · exact ⟨by show (leadTo s add k).lo<=j; omega,by show (j:Int)<=k; omega⟩
    · rw [if_neg h]
      rcases ih with ⟨h1,h2,h3⟩ | ⟨h1,h2,h3,h4,h5,h6⟩
      · refine .inl ⟨h1,h2,fun j hj => ?_⟩
        by_cases hjk:j < k
        · exact h3 j hjk
        · have:j=k:=by omega
          subst this; simpa using h
      · refine .inr ⟨h1,h2,by omega,h4,h5,fun j hj hsj => ?_⟩
        by_cases hjk:j < k
        · exact h6 j hjk hsj
        · have:j=k:=by omega
          subst this; exact absurd hsj h
theorem strips_law {s:Shop} {add:List Int} {n:Nat} (h1:okShop s=true) (h2:isAddM s add=true) (h3:okShop (withPig s n)=true) (h4:isAddM (withPig s n) (add ++ [(n:Int)])=true) :
  openM (withPig s n) (isAddM (withPig s n) (add ++ [(n:Int)]))=0/\(leadE s add=0 ∨ leadE s add=3) ∧
  (safeN (withPig s n) (add ++ [(n:Int)])=1 ↔ (leadE s add=0/\(leadS s add).lo<=n/\(n:Int)<=(leadS s add).hi)):=by
 have hs:=sound_shop h1
 have hl:add.length=s.pigs.length:=(isAdd_ok hs h2).2.1
 have o1:openM (withPig s n) (isAddM (withPig s n) (add ++ [(n:Int)]))=0:=by unfold openM; rw [h3,h4]; rfl
 have o2:openM s (isAddM s add)=0:=by unfold openM; rw [h1,h2]; rfl
 have hsafe:safeN (withPig s n) (add ++ [(n:Int)])=1 ↔ safeM s (leadP (afterM s add) n)=true:=by
  unfold safeN
  rw [if_pos o1,after_with hl,safe_with]
  by_cases c:safeM s (leadP (afterM s add) n)=true
  ·rw [if_pos c]; simp [c]
  ·rw [if_neg c]
   constructor
   ·intro h; split at h <;> omega
   ·intro h; exact absurd h c
 have hroom:(n:Nat) < leadN s add:=by
  unfold isAddM at h4
  simp only [Bool.and_eq_true,decide_eq_true_eq] at h4
  have h5:=h4.2.2
  rw [sum_with hl] at h5
  have h6:s.pot.pounds + (sumM s add Pig.pounds + (n:Int) * 1)<=s.room:=h5
  unfold leadN
  have:(afterM s add).pounds=s.pot.pounds + sumM s add Pig.pounds:=rfl
  omega
 refine ⟨o1,?_,?_⟩
 ·unfold leadE; rw [if_pos o2]; split
  ·exact .inr rfl
  ·exact .inl rfl
 ·rw [hsafe]
  unfold leadE leadS
  rw [if_pos o2,if_pos o2]
  rcases leadTo_is (s:=s) (add:=add) (leadN s add) with ⟨l1,l2,l3⟩ | ⟨l1,l2,l3,l4,l5,l6⟩
  ·rw [if_pos l1]
   constructor
   ·intro h; rw [l3 n hroom] at h; cases h
   ·intro h; exact absurd h.1 (by decide)
  ·rw [if_neg (by omega),if_neg (by omega)]
   constructor
   ·intro h; have:=l6 n hroom h; exact ⟨rfl,this.1,this.2⟩
   ·rintro ⟨_,h5,h6⟩
    exact safe_mid hs l4 l5 h5 h6
end Go.Sh
namespace Go.En
open Go Go.Ab Go.Sh
def cPot (p:Pot):List AV:=[iv p.pounds,iv p.tin.lo,iv p.tin.hi,iv p.anti.lo,iv p.anti.hi]
abbrev vPot (p:Pot):AV := .agg (cPot p)
def cPig (p:Pig):List AV:=[iv p.pounds,iv p.tin,iv p.anti,iv p.pence,iv p.many]
abbrev vPig (p:Pig):AV := .agg (cPig p)
def cShop (s:Shop):List AV:=[iv s.pot.pounds,iv s.pot.tin.lo,iv s.pot.tin.hi,iv s.pot.anti.lo,iv s.pot.anti.hi,iv s.room,iv s.tinP.lo,iv s.tinP.hi,iv s.antiP.lo,iv s.antiP.hi,.sl 5 s.pigs.length (fun i=>cPig (pig s i))]
abbrev vShop (s:Shop):AV := .agg (cShop s)
end Go.En
namespace Go.Sh
def hugeM (s:Shop):Bool:=decide ((s.pigs.length:Int) > 40)
def fitsM (s:Shop):Prop:=s.pigs.length<=Go.Ab.big
def smallM (s:Shop):Prop:=s.pigs.length<=64
end Go.Sh
namespace Go.Ab
open Go Go.RowKit Go.Proofs Go.Sh Go.En
def s99 (n lo hi:Int):CallSpec:={ args:=[iv n,iv lo,iv hi],res:=bv (within n lo hi) }
def s131 (s:Span) (most:Int):CallSpec:={ args:=[vSpan s,iv most],res:=bv (isSpan s most) }
def s130 (p:Pot):CallSpec:={ args:=[vPot p],res:=bv (okPot p) }
def c130a (p:Pot):CallSpec:=s131 p.tin p.pounds
def c130b (p:Pot):CallSpec:=s131 p.anti (p.pounds - p.tin.hi)
def s52 (p:Pot):CallSpec:={ args:=[vPot p],res:=bv (okPot p) }
def c52a (p:Pot):CallSpec:=s53 p.tin p.pounds
def c52b (p:Pot):CallSpec:=s53 p.anti p.pounds
def s54 (p:Pig):CallSpec:={ args:=[vPig p],res:=bv (okPig p) }
def s21 (s:Shop):CallSpec:={ args:=[vShop s],res:=iv (checkM s),pre:=fitsM s }
def h21 (s:Shop):Hint:={ X:=Nat,M:=fun i=>[(3,iv i)],I:=fun i=>i<=s.pigs.length /\ ∀ j,j < i->okPig (pig s j)=true,mu:=fun i=>s.pigs.length - i,x0:=(0:Nat),nx:=fun i=>i + 1 }
def c21a (s:Shop):CallSpec:=s52 s.pot
def c21b (s:Shop):CallSpec:=s53 s.tinP 1000
def c21c (s:Shop):CallSpec:=s53 s.antiP 1000
def s98 (s:Shop):CallSpec:={ args:=[vShop s],res:=iv (checkM s),pre:=fitsM s }
def h98 (s:Shop):Hint:={ X:=Nat,M:=fun i=>[(3,bv (okMTo s i)),(36,iv i)],I:=fun i=>i<=s.pigs.length,mu:=fun i=>s.pigs.length - i,x0:=(0:Nat),nx:=fun i=>i + 1 }
def c98a (s:Shop):CallSpec:=s130 s.pot
def c98b (s:Shop):CallSpec:=s131 s.tinP 1000
def c98c (s:Shop):CallSpec:=s131 s.antiP 1000
def s20 (s:Shop):CallSpec:={ args:=[vShop s],res:=bv (hugeM s),pre:=fitsM s }
def s55 (s:Shop) (add:List Int):CallSpec:={ args:=[vShop s,aInts add],res:=iv (sumM s add Pig.pounds),pre:=AddOK s add }
def h55 (s:Shop) (add:List Int):Hint:={ X:=Nat,M:=fun i=>[(5,iv (sumMT s add Pig.pounds i)),(6,iv i)],I:=fun i=>i<=add.length,mu:=fun i=>add.length - i,x0:=(0:Nat),nx:=fun i=>i + 1 }
def s22 (s:Shop) (add:List Int):CallSpec:={ args:=[vShop s,aInts add],res:=bv (isAddM s add),pre:=SoundM s/\add.length<=big }
def h22 (s:Shop) (add:List Int):Hint:={ X:=Nat,M:=fun i=>[(5,iv i)],I:=fun i=>i<=add.length /\ ∀ j,j < i->addAt s add j=true,mu:=fun i=>add.length - i,x0:=(0:Nat),nx:=fun i=>i + 1 }
def ou29 (s:Shop):OutSpec:={ args:=[vShop s],pre:=smallM s,res := .agg [iv s.pot.pounds,iv s.pot.tin.lo,iv s.pot.tin.hi,iv s.pot.anti.lo,iv s.pot.anti.hi,iv s.room,iv s.tinP.lo,iv s.tinP.hi,iv s.antiP.lo,iv s.antiP.hi,.vec 0],hout:=[(0,.vec 74 5 s.pigs.length (fun i=>cPig (pig s i)))] }
def s29o (s:Shop) (id:Nat):CallSpec:=(ou29 s).at [(0,id)]
def s101 (p:Pig):CallSpec:={ args:=[vPig p],res:=iv p.pounds }
def s103 (p:Pig):CallSpec:={ args:=[vPig p],res:=iv p.tin }
def s104 (p:Pig):CallSpec:={ args:=[vPig p],res:=iv p.anti }
def s123 (p:Pig):CallSpec:={ args:=[vPig p],res:=iv p.pence }
def s100 (s:Shop) (add:List Int) (g:Pig->Int):CallSpec:={ args:=[vShop s,aInts add,.fn 0],res:=iv (sumM s add g),pre:=AddOK s add /\ ∀ i,i < s.pigs.length->0<=g (pig s i)/\g (pig s i)<=99,fnok:=fnokOf Try.prog 0 (fun p:Pig=>[vPig p]) (fun p=>iv (g p)) }
def h100 (s:Shop) (add:List Int) (g:Pig->Int):Hint:={ X:=Nat,M:=fun i=>[(7,iv (sumMT s add g i)),(12,iv i)],I:=fun i=>i<=add.length,mu:=fun i=>add.length - i,x0:=(0:Nat),nx:=fun i=>i + 1 }
def c100 (s:Shop) (add:List Int) (g:Pig->Int) (x:Nat):CallSpec:={ args:=[vPig (pig s x)],res:=iv (g (pig s x)) }
def s68 (s:Shop) (add:List Int):CallSpec:={ args:=[vShop s,aInts add],res:=bv (isAddM s add),pre:=SoundM s/\add.length<=big }
def h68 (s:Shop) (add:List Int):Hint:={ X:=Nat,M:=fun i=>[(16,iv i)],I:=fun i=>i<=add.length /\ ∀ j,j < i->addAt s add j=true,mu:=fun i=>add.length - i,x0:=(0:Nat),nx:=fun i=>i + 1 }
def c68 (s:Shop) (add:List Int):CallSpec:=s100 s add Pig.pounds
def s102 (s:Span) (n:Int):CallSpec:={ args:=[vSpan s,iv n],res:=vSpan (shiftM s n),pre:=inI (s.lo + n)/\inI (s.hi + n) }
def s69 (s:Shop) (add:List Int):CallSpec:={ args:=[vShop s,aInts add],res:=vPot (afterM s add),pre:=AddOK s add }
def c69a (s:Shop) (add:List Int):CallSpec:=s100 s add Pig.pounds
def c69b (s:Shop) (add:List Int):CallSpec:=s100 s add Pig.tin
def c69c (s:Shop) (add:List Int):CallSpec:=s102 s.pot.tin (sumM s add Pig.tin)
def c69d (s:Shop) (add:List Int):CallSpec:=s100 s add Pig.anti
def c69e (s:Shop) (add:List Int):CallSpec:=s102 s.pot.anti (sumM s add Pig.anti)
def smallPot (p:Pot):Prop:=(0<=p.pounds/\p.pounds<=100000)/\(0<=p.tin.lo/\p.tin.lo<=p.tin.hi/\p.tin.hi<=100000)/\(0<=p.anti.lo/\p.anti.lo<=p.anti.hi/\p.anti.hi<=100000)
def s106 (s:Shop) (p:Pot) (n:Int):CallSpec:={ args:=[vShop s,vPot p,iv n],res:=bv (failM s p n),pre:=SoundM s/\smallPot p }
def s70 (s:Shop) (p:Pot):CallSpec:={ args:=[vShop s,vPot p],res:=bv (safeM s p),pre:=SoundM s/\smallPot p }
def s72 (q:Span) (all:Int):CallSpec:={ args:=[vSpan q,iv all],res:=vSpan (justM q all),pre:=0<=q.lo/\q.lo<=1000/\0<=q.hi/\q.hi<=1000/\0<=all/\all<=100000 }
def s71 (a b:Span):CallSpec:={ args:=[vSpan a,vSpan b],res:=bv (meetM a b) }
def s67 (s:Shop) (add:List Int):CallSpec:={ args:=[vShop s,.rp [aInts add]],res:=bv (isAddM s add),pre:=SoundM s/\add.length<=big }
def s73 (s:Shop) (add:List Int):CallSpec:={ args:=[vShop s,.rp [aInts add]],res:=bv (isAddM s add),pre:=SoundM s/\add.length<=big }
end Go.Ab
namespace Go.Ab
open Go Go.RowKit Go.Proofs Go.Sh Go.En
theorem isSpan_iff {s:Span} {n:Int}:isSpan s n=true ↔ (0<=s.hi/\s.hi<=n)/\0<=s.lo/\s.lo<=s.hi:=by
 unfold isSpan; rw [Bool.and_eq_true,Go.Sh.within_iff,Go.Sh.within_iff]
theorem not_or4 {a b c d e:Bool}:(bif bif bif bif !a then true else !b then true else !c then true else !d then true else e) = !(a && b && c && d && !e):=by cases a <;> cases b <;> cases c <;> cases d <;> cases e <;> rfl
theorem headM_eq (s:Shop):(bif bif bif bif !okPot s.pot then true else !within s.room s.pot.pounds 999 then true else !isSpan s.tinP 1000 then true else !isSpan s.antiP 1000 then true else decide (4 < (s.pigs.length:Int))) = !okHeadM s:=by
 rw [not_or4]; unfold okHeadM
 rw [show (!decide (4 < (s.pigs.length:Int)))=decide ((s.pigs.length:Int)<=4) by by_cases h:(s.pigs.length:Int)<=4 <;> simp [h] <;> omega]
theorem okM_iff {s:Shop}:okShop s=true ↔ okHeadM s=true /\ ∀ j,j < s.pigs.length->okPig (pig s j)=true:=by
 unfold okShop okMTo
 rw [Bool.and_eq_true,List.all_eq_true]
 exact ⟨fun h=>⟨h.1,fun j hj=>h.2 j (List.mem_range.2 hj)⟩,fun h=>⟨h.1,fun j hj=>h.2 j (List.mem_range.1 hj)⟩⟩
theorem okMTo_succ (s:Shop) (n:Nat):okMTo s (n + 1)=(okMTo s n && okPig (pig s n)):=by
 unfold okMTo
 rw [List.range_succ,List.all_append]
 simp [Bool.and_assoc]
theorem isAdd_iff {s:Shop} {add:List Int}:isAddM s add=true ↔ add.length=s.pigs.length/\(∀ i,i < add.length->addAt s add i=true)/\s.pot.pounds + sumM s add Pig.pounds<=s.room:=by
 unfold isAddM
 rw [Bool.and_eq_true,Bool.and_eq_true,List.all_eq_true,decide_eq_true_eq,decide_eq_true_eq]
 exact ⟨fun h=>⟨h.1,fun j hj=>h.2.1 j (List.mem_range.2 hj),h.2.2⟩,fun h=>⟨h.1,fun j hj=>h.2.1 j (List.mem_range.1 hj),h.2.2⟩⟩
theorem isAdd_no {s:Shop} {add:List Int} (h:¬ (add.length=s.pigs.length/\(∀ i,i < add.length->addAt s add i=true)/\s.pot.pounds + sumM s add Pig.pounds<=s.room)):isAddM s add=false:=by
 cases e:isAddM s add with
 | false=>rfl
 | true=>exact absurd (isAdd_iff.1 e) h
theorem sumM_in {s:Shop} {add:List Int} (h:AddOK s add) {g:Pig->Int} (hg:∀ i,i < s.pigs.length->0<=g (pig s i)/\g (pig s i)<=99) {n:Nat} (hn:n<=add.length):0<=sumMT s add g n/\sumMT s add g n<=1980:=by
 have h1:=sumMT_in h hg n hn
 have h2:=h.2.1
 have h3:=h.1.len
 omega
theorem pig_pounds {s:Shop} (h:SoundM s):∀ i,i < s.pigs.length->0<=(pig s i).pounds/\(pig s i).pounds<=99:=fun i hi=>by have:=h.pig i hi; omega
theorem pig_tin {s:Shop} (h:SoundM s):∀ i,i < s.pigs.length->0<=(pig s i).tin/\(pig s i).tin<=99:=fun i hi=>by have:=h.pig i hi; omega
theorem pig_anti {s:Shop} (h:SoundM s):∀ i,i < s.pigs.length->0<=(pig s i).anti/\(pig s i).anti<=99:=fun i hi=>by have:=h.pig i hi; omega
theorem pig_pence {s:Shop} (h:SoundM s):∀ i,i < s.pigs.length->0<=(pig s i).pence/\(pig s i).pence<=99:=fun i hi=>by have:=h.pig i hi; omega
theorem mprod_in {s:Shop} {add:List Int} (h:AddOK s add) {g:Pig->Int} (hg:∀ i,i < s.pigs.length->0<=g (pig s i)/\g (pig s i)<=99) {x:Nat} (hx:x < add.length):0<=add.getD x 0 * g (pig s x)/\add.getD x 0 * g (pig s x)<=5 * 99 :=
 mul_in (h.2.2 x hx) (hg x (by have:=h.2.1; omega))
theorem w99 (n:Int) (lo:Int) (hi:Int)
  (o0:(bif decide (lo<=n) then decide (n<=hi) else false)=within n lo hi) :
  Triple Try.prog 99 (s99 n lo hi):=by
 refine triple_of Try.func99 rfl Try.call99 T0_ok _ rfl rfl rfl rfl (Nat.le_of_ble_eq_true (by kernel_rfl)) (fun _ _ _ _ h=>h) ?_
 intro _ C hC _ hE
 obtain ⟨P,w0,E0,av,hA,ro,df⟩:=C
 obtain ⟨rfl,rfl,rfl⟩:=hC
 refine swp_seq ?_
 refine zR [0,1,2] [] (Ak 1 tv) ?_
 refine swp_seq ?_
 refine zR [6] [] (Ak 4 (An (fun (y0:decide (lo<=n)=true)=>(An (Ak 1 tv) tv)) (An (fun (y1:decide (lo<=n)=true)=>(An (Ak 1 tv) tv)) (An (fun (y2:decide (lo<=n)=true)=>(An (An (fun (y3:decide (lo<=n)=true)=>y2) (An (fun (y4:decide (lo<=n)=true)=>y2) tv)) tv)) (An (An (fun (y5:decide (lo<=n)=true)=>y5) (fun (y6:decide (lo<=n)=false)=>tv)) (Ak 1 tv)))))) ?_
 refine swp_ret ?_
 exact zT [] (An (Ak 1 tv) (An (An (cb (o0)) (zr nilN)) (An (zr true) (An (zr true) (zr true)))))
theorem t99 (n lo hi:Int):Triple Try.prog 99 (s99 n lo hi):=by
 refine w99 n lo hi ?_
 unfold within; cases decide (lo<=n) <;> rfl
theorem w131 (s:Span) (most:Int)
  (o0:(bif within s.hi 0 most then within s.lo 0 s.hi else false)=isSpan s most) :
  Triple Try.prog 131 (s131 s most):=by
 refine triple_of Try.func131 rfl Try.call131 T0_ok _ rfl rfl rfl rfl (Nat.le_of_ble_eq_true (by kernel_rfl)) (fun _ _ _ _ h=>h) ?_
 intro _ C hC _ hE
 obtain ⟨P,w0,E0,av,hA,ro,df⟩:=C
 obtain ⟨rfl,rfl,rfl⟩:=hC
 refine swp_seq ?_
 refine zR [1,2] [0] (Ak 2 tv) ?_
 refine swp_seq ?_
 refine zC ([(3,CallSpec.eq (s99 s.hi 0 most) [true,true,true]),(9,CallSpec.eq (s99 s.lo 0 s.hi) [true,true,true])]) [4] [] (Ak 3 (An (An (An (zr (iv s.hi)) (An (zr (iv 0)) (An (zr (iv most)) tv))) (An (t99 s.hi (0) (most)) (Ak 2 (fun (i0:Env)=>tv)))) (Ak 1 (An (fun (y1:within s.hi 0 most=true)=>(An (Ak 1 tv) tv)) (An (fun (y2:within s.hi 0 most=true)=>(An (An (fun (y3:within s.hi 0 most=true)=>y2) tv) tv)) (An (fun (y4:within s.hi 0 most=true)=>(An (Ak 1 tv) tv)) (An (fun (y5:within s.hi 0 most=true)=>(An (An (fun (y6:within s.hi 0 most=true)=>y5) tv) tv)) (An (fun (y7:within s.hi 0 most=true)=>(An (Ak 1 (An (fun (y8:within s.hi 0 most=true)=>y7) (Ak 1 (An (fun (y9:within s.hi 0 most=true)=>y7) tv)))) (An (An (zr (iv s.lo)) (An (zr (iv 0)) (An (zr (iv s.hi)) tv))) (An (t99 s.lo (0) s.hi) (Ak 2 (fun (i10:Env)=>tv)))))) (An (An (fun (y11:within s.hi 0 most=true)=>y11) (fun (y12:within s.hi 0 most=false)=>tv)) (Ak 1 tv)))))))))) ?_
 refine swp_ret ?_
 exact zT [] (An (Ak 1 tv) (An (An (cb (o0)) (zr nilN)) (An (zr true) (An (zr true) (zr true)))))
theorem t131 (s:Span) (most:Int):Triple Try.prog 131 (s131 s most):=by
 apply w131
 unfold isSpan; cases within s.hi 0 most <;> rfl
theorem w130 (p:Pot)
  (o0:(bif within (Pot.pounds p) 0 400 then isSpan (Pot.tin p) (Pot.pounds p) else false)=true->inI (Pot.pounds p - (Pot.tin p).hi))
  (o1:(bif bif within (Pot.pounds p) 0 400 then isSpan (Pot.tin p) (Pot.pounds p) else false then isSpan (Pot.anti p) (Pot.pounds p - (Pot.tin p).hi) else false)=okPot p) :
  Triple Try.prog 130 (s130 p):=by
 refine triple_of Try.func130 rfl Try.call130 T0_ok _ rfl rfl rfl rfl (Nat.le_of_ble_eq_true (by kernel_rfl)) (fun _ _ _ _ h=>h) ?_
 intro _ C hC _ hE
 obtain ⟨P,w0,E0,av,hA,ro,df⟩:=C
 obtain ⟨rfl,rfl,rfl⟩:=hC
 refine swp_seq ?_
 refine zR [1] [0] (Ak 2 tv) ?_
 refine swp_seq ?_
 refine zC ([(2,CallSpec.eq (s99 (Pot.pounds p) 0 400) [true,true,true]),(8,CallSpec.eq (c130a p) [true,true]),(19,CallSpec.eq (c130b p) [true,true])]) [2] [] (Ak 2 (An (An (An (zr (iv (Pot.pounds p))) (An (zr (iv 0)) (An (zr (iv 400)) tv))) (An (t99 (Pot.pounds p) (0) (400)) (Ak 2 (fun (i0:Env)=>tv)))) (Ak 1 (An (fun (y1:within (Pot.pounds p) 0 400=true)=>(An (Ak 1 tv) tv)) (An (fun (y2:within (Pot.pounds p) 0 400=true)=>(An (An (fun (y3:within (Pot.pounds p) 0 400=true)=>y2) tv) tv)) (An (fun (y4:within (Pot.pounds p) 0 400=true)=>(An (Ak 1 tv) tv)) (An (fun (y5:within (Pot.pounds p) 0 400=true)=>(An (An (fun (y6:within (Pot.pounds p) 0 400=true)=>y5) tv) tv)) (An (fun (y7:within (Pot.pounds p) 0 400=true)=>(An (Ak 1 (An (fun (y8:within (Pot.pounds p) 0 400=true)=>y7) (An (fun (y9:within (Pot.pounds p) 0 400=true)=>y7) tv))) (An (An (zr (AV.agg (cSpan (Pot.tin p)))) (An (zr (iv (Pot.pounds p))) tv)) (An (t131 (Pot.tin p) (Pot.pounds p)) (Ak 2 (fun (i10:Env)=>tv)))))) (An (An (fun (y11:within (Pot.pounds p) 0 400=true)=>y11) (fun (y12:within (Pot.pounds p) 0 400=false)=>tv)) (Ak 1 (An (fun (y13:(bif within (Pot.pounds p) 0 400 then isSpan (Pot.tin p) (Pot.pounds p) else false)=true)=>(An (Ak 1 tv) tv)) (An (fun (y14:(bif within (Pot.pounds p) 0 400 then isSpan (Pot.tin p) (Pot.pounds p) else false)=true)=>(An (An (fun (y15:(bif within (Pot.pounds p) 0 400 then isSpan (Pot.tin p) (Pot.pounds p) else false)=true)=>y14) tv) tv)) (An (fun (y16:(bif within (Pot.pounds p) 0 400 then isSpan (Pot.tin p) (Pot.pounds p) else false)=true)=>(An (Ak 1 tv) tv)) (An (fun (y17:(bif within (Pot.pounds p) 0 400 then isSpan (Pot.tin p) (Pot.pounds p) else false)=true)=>(An (An (fun (y18:(bif within (Pot.pounds p) 0 400 then isSpan (Pot.tin p) (Pot.pounds p) else false)=true)=>y17) tv) tv)) (An (fun (y19:(bif within (Pot.pounds p) 0 400 then isSpan (Pot.tin p) (Pot.pounds p) else false)=true)=>(An (Ak 1 tv) tv)) (An (fun (y20:(bif within (Pot.pounds p) 0 400 then isSpan (Pot.tin p) (Pot.pounds p) else false)=true)=>(An (An (fun (y21:(bif within (Pot.pounds p) 0 400 then isSpan (Pot.tin p) (Pot.pounds p) else false)=true)=>y20) tv) tv)) (An (fun (y22:(bif within (Pot.pounds p) 0 400 then isSpan (Pot.tin p) (Pot.pounds p) else false)=true)=>(An (An (fun (y23:(bif within (Pot.pounds p) 0 400 then isSpan (Pot.tin p) (Pot.pounds p) else false)=true)=>y22) tv) tv)) (An (fun (y24:(bif within (Pot.pounds p) 0 400 then isSpan (Pot.tin p) (Pot.pounds p) else false)=true)=>(An (An (fun (y25:(bif within (Pot.pounds p) 0 400 then isSpan (Pot.tin p) (Pot.pounds p) else false)=true)=>y24) (An (fun (y26:(bif within (Pot.pounds p) 0 400 then isSpan (Pot.tin p) (Pot.pounds p) else false)=true)=>y24) tv)) (o0 y24))) (An (fun (y27:(bif within (Pot.pounds p) 0 400 then isSpan (Pot.tin p) (Pot.pounds p) else false)=true)=>(An (Ak 1 (An (fun (y28:(bif within (Pot.pounds p) 0 400 then isSpan (Pot.tin p) (Pot.pounds p) else false)=true)=>y27) (An (fun (y29:(bif within (Pot.pounds p) 0 400 then isSpan (Pot.tin p) (Pot.pounds p) else false)=true)=>y27) tv))) (An (An (zr (AV.agg (cSpan (Pot.anti p)))) (An (zr (iv (Pot.pounds p - (Pot.tin p).hi))) tv)) (An (t131 (Pot.anti p) (Pot.pounds p - (Pot.tin p).hi)) (Ak 2 (fun (i30:Env)=>tv)))))) (An (An (fun (y31:(bif within (Pot.pounds p) 0 400 then isSpan (Pot.tin p) (Pot.pounds p) else false)=true)=>y31) (fun (y32:(bif within (Pot.pounds p) 0 400 then isSpan (Pot.tin p) (Pot.pounds p) else false)=false)=>tv)) (Ak 1 tv))))))))))))))))))))) ?_
 refine swp_ret ?_
 exact zT [] (An (Ak 1 tv) (An (An (cb (o1)) (zr nilN)) (An (zr true) (An (zr true) (zr true)))))
theorem t130 (p:Pot):Triple Try.prog 130 (s130 p):=by
 apply w130
 case o0 =>
  simp only [Bool.cond_false_right,Bool.and_eq_true,Go.Sh.within_iff,isSpan_iff,inI]
  omega
 case o1=>simp only [Bool.cond_false_right]; rfl
theorem w52 (p:Pot)
  (o0:(bif bif within (Pot.pounds p) 0 400 then isSpan (Pot.tin p) (Pot.pounds p) else false then isSpan (Pot.anti p) (Pot.pounds p) else false)=true->inI ((Pot.tin p).hi + (Pot.anti p).hi))
  (o1:(bif bif bif within (Pot.pounds p) 0 400 then isSpan (Pot.tin p) (Pot.pounds p) else false then isSpan (Pot.anti p) (Pot.pounds p) else false then decide ((Pot.tin p).hi + (Pot.anti p).hi<=Pot.pounds p) else false)=okPot p) :
  Triple Try.prog 52 (s52 p):=by
 refine triple_of Try.func52 rfl Try.call52 T0_ok _ rfl rfl rfl rfl (Nat.le_of_ble_eq_true (by kernel_rfl)) (fun _ _ _ _ h=>h) ?_
 intro _ C hC _ hE
 obtain ⟨P,w0,E0,av,hA,ro,df⟩:=C
 obtain ⟨rfl,rfl,rfl⟩:=hC
 refine swp_seq ?_
 refine zR [1] [0] (Ak 2 tv) ?_
 refine swp_seq ?_
 refine zC ([(2,CallSpec.eq (s46 (Pot.pounds p) 0 400) [true,true,true]),(8,CallSpec.eq (c52a p) [true,true]),(15,CallSpec.eq (c52b p) [true,true])]) [2] [] (Ak 2 (An (An (An (zr (iv (Pot.pounds p))) (An (zr (iv 0)) (An (zr (iv 400)) tv))) (An (t46 (Pot.pounds p) (0) (400)) (Ak 2 (fun (i0:Env)=>tv)))) (Ak 1 (An (fun (y1:within (Pot.pounds p) 0 400=true)=>(An (Ak 1 tv) tv)) (An (fun (y2:within (Pot.pounds p) 0 400=true)=>(An (An (fun (y3:within (Pot.pounds p) 0 400=true)=>y2) tv) tv)) (An (fun (y4:within (Pot.pounds p) 0 400=true)=>(An (Ak 1 tv) tv)) (An (fun (y5:within (Pot.pounds p) 0 400=true)=>(An (An (fun (y6:within (Pot.pounds p) 0 400=true)=>y5) tv) tv)) (An (fun (y7:within (Pot.pounds p) 0 400=true)=>(An (Ak 1 (An (fun (y8:within (Pot.pounds p) 0 400=true)=>y7) (An (fun (y9:within (Pot.pounds p) 0 400=true)=>y7) tv))) (An (An (zr (AV.agg (cSpan (Pot.tin p)))) (An (zr (iv (Pot.pounds p))) tv)) (An (t53 (Pot.tin p) (Pot.pounds p)) (Ak 2 (fun (i10:Env)=>tv)))))) (An (An (fun (y11:within (Pot.pounds p) 0 400=true)=>y11) (fun (y12:within (Pot.pounds p) 0 400=false)=>tv)) (Ak 1 (An (fun (y13:(bif within (Pot.pounds p) 0 400 then isSpan (Pot.tin p) (Pot.pounds p) else false)=true)=>(An (Ak 1 tv) tv)) (An (fun (y14:(bif within (Pot.pounds p) 0 400 then isSpan (Pot.tin p) (Pot.pounds p) else false)=true)=>(An (An (fun (y15:(bif within (Pot.pounds p) 0 400 then isSpan (Pot.tin p) (Pot.pounds p) else false)=true)=>y14) tv) tv)) (An (fun (y16:(bif within (Pot.pounds p) 0 400 then isSpan (Pot.tin p) (Pot.pounds p) else false)=true)=>(An (Ak 1 tv) tv)) (An (fun (y17:(bif within (Pot.pounds p) 0 400 then isSpan (Pot.tin p) (Pot.pounds p) else false)=true)=>(An (An (fun (y18:(bif within (Pot.pounds p) 0 400 then isSpan (Pot.tin p) (Pot.pounds p) else false)=true)=>y17) tv) tv)) (An (fun (y19:(bif within (Pot.pounds p) 0 400 then isSpan (Pot.tin p) (Pot.pounds p) else false)=true)=>(An (Ak 1 (An (fun (y20:(bif within (Pot.pounds p) 0 400 then isSpan (Pot.tin p) (Pot.pounds p) else false)=true)=>y19) (An (fun (y21:(bif within (Pot.pounds p) 0 400 then isSpan (Pot.tin p) (Pot.pounds p) else false)=true)=>y19) tv))) (An (An (zr (AV.agg (cSpan (Pot.anti p)))) (An (zr (iv (Pot.pounds p))) tv)) (An (t53 (Pot.anti p) (Pot.pounds p)) (Ak 2 (fun (i22:Env)=>tv)))))) (An (An (fun (y23:(bif within (Pot.pounds p) 0 400 then isSpan (Pot.tin p) (Pot.pounds p) else false)=true)=>y23) (fun (y24:(bif within (Pot.pounds p) 0 400 then isSpan (Pot.tin p) (Pot.pounds p) else false)=false)=>tv)) (Ak 1 (An (fun (y25:(bif bif within (Pot.pounds p) 0 400 then isSpan (Pot.tin p) (Pot.pounds p) else false then isSpan (Pot.anti p) (Pot.pounds p) else false)=true)=>(An (Ak 1 tv) tv)) (An (fun (y26:(bif bif within (Pot.pounds p) 0 400 then isSpan (Pot.tin p) (Pot.pounds p) else false then isSpan (Pot.anti p) (Pot.pounds p) else false)=true)=>(An (An (fun (y27:(bif bif within (Pot.pounds p) 0 400 then isSpan (Pot.tin p) (Pot.pounds p) else false then isSpan (Pot.anti p) (Pot.pounds p) else false)=true)=>y26) tv) tv)) (An (fun (y28:(bif bif within (Pot.pounds p) 0 400 then isSpan (Pot.tin p) (Pot.pounds p) else false then isSpan (Pot.anti p) (Pot.pounds p) else false)=true)=>(An (An (fun (y29:(bif bif within (Pot.pounds p) 0 400 then isSpan (Pot.tin p) (Pot.pounds p) else false then isSpan (Pot.anti p) (Pot.pounds p) else false)=true)=>y28) tv) tv)) (An (fun (y30:(bif bif within (Pot.pounds p) 0 400 then isSpan (Pot.tin p) (Pot.pounds p) else false then isSpan (Pot.anti p) (Pot.pounds p) else false)=true)=>(An (Ak 1 tv) tv)) (An (fun (y31:(bif bif within (Pot.pounds p) 0 400 then isSpan (Pot.tin p) (Pot.pounds p) else false then isSpan (Pot.anti p) (Pot.pounds p) else false)=true)=>(An (An (fun (y32:(bif bif within (Pot.pounds p) 0 400 then isSpan (Pot.tin p) (Pot.pounds p) else false then isSpan (Pot.anti p) (Pot.pounds p) else false)=true)=>y31) tv) tv)) (An (fun (y33:(bif bif within (Pot.pounds p) 0 400 then isSpan (Pot.tin p) (Pot.pounds p) else false then isSpan (Pot.anti p) (Pot.pounds p) else false)=true)=>(An (An (fun (y34:(bif bif within (Pot.pounds p) 0 400 then isSpan (Pot.tin p) (Pot.pounds p) else false then isSpan (Pot.anti p) (Pot.pounds p) else false)=true)=>y33) tv) tv)) (An (fun (y35:(bif bif within (Pot.pounds p) 0 400 then isSpan (Pot.tin p) (Pot.pounds p) else false then isSpan (Pot.anti p) (Pot.pounds p) else false)=true)=>(An (An (fun (y36:(bif bif within (Pot.pounds p) 0 400 then isSpan (Pot.tin p) (Pot.pounds p) else false then isSpan (Pot.anti p) (Pot.pounds p) else false)=true)=>y35) (An (fun (y37:(bif bif within (Pot.pounds p) 0 400 then isSpan (Pot.tin p) (Pot.pounds p) else false then isSpan (Pot.anti p) (Pot.pounds p) else false)=true)=>y35) tv)) (o0 y35))) (An (fun (y38:(bif bif within (Pot.pounds p) 0 400 then isSpan (Pot.tin p) (Pot.pounds p) else false then isSpan (Pot.anti p) (Pot.pounds p) else false)=true)=>(An (Ak 1 tv) tv)) (An (fun (y39:(bif bif within (Pot.pounds p) 0 400 then isSpan (Pot.tin p) (Pot.pounds p) else false then isSpan (Pot.anti p) (Pot.pounds p) else false)=true)=>(An (An (fun (y40:(bif bif within (Pot.pounds p) 0 400 then isSpan (Pot.tin p) (Pot.pounds p) else false then isSpan (Pot.anti p) (Pot.pounds p) else false)=true)=>y39) tv) tv)) (An (fun (y41:(bif bif within (Pot.pounds p) 0 400 then isSpan (Pot.tin p) (Pot.pounds p) else false then isSpan (Pot.anti p) (Pot.pounds p) else false)=true)=>(An (An (fun (y42:(bif bif within (Pot.pounds p) 0 400 then isSpan (Pot.tin p) (Pot.pounds p) else false then isSpan (Pot.anti p) (Pot.pounds p) else false)=true)=>y41) (An (fun (y43:(bif bif within (Pot.pounds p) 0 400 then isSpan (Pot.tin p) (Pot.pounds p) else false then isSpan (Pot.anti p) (Pot.pounds p) else false)=true)=>y41) tv)) tv)) (An (An (fun (y44:(bif bif within (Pot.pounds p) 0 400 then isSpan (Pot.tin p) (Pot.pounds p) else false then isSpan (Pot.anti p) (Pot.pounds p) else false)=true)=>y44) (fun (y45:(bif bif within (Pot.pounds p) 0 400 then isSpan (Pot.tin p) (Pot.pounds p) else false then isSpan (Pot.anti p) (Pot.pounds p) else false)=false)=>tv)) (Ak 1 tv))))))))))))))))))))))))))))) ?_
 refine swp_ret ?_
 exact zT [] (An (Ak 1 tv) (An (An (cb (o1)) (zr nilN)) (An (zr true) (An (zr true) (zr true)))))
theorem t52 (p:Pot):Triple Try.prog 52 (s52 p):=by
 apply w52
 case o0 =>
  simp only [Bool.cond_false_right,Bool.and_eq_true,Go.Sh.within_iff,isSpan_iff,inI]
  omega
 case o1 =>
  unfold okPot
  rw [Bool.eq_iff_iff]
  simp only [Bool.cond_false_right,Bool.and_eq_true,Go.Sh.within_iff,isSpan_iff,decide_eq_true_eq]
  omega
theorem w54 (p:Pig)
  (o0:(bif within (Pig.pounds p) 1 40 then within (Pig.tin p) 0 (Pig.pounds p) else false)=true->inI (Pig.pounds p - Pig.tin p))
  (o1:(bif bif bif bif within (Pig.pounds p) 1 40 then within (Pig.tin p) 0 (Pig.pounds p) else false then within (Pig.anti p) 0 (Pig.pounds p - Pig.tin p) else false then within (Pig.pence p) 0 99 else false then within (Pig.many p) 0 5 else false)=okPig p) :
  Triple Try.prog 54 (s54 p):=by
 refine triple_of Try.func54 rfl Try.call54 T0_ok _ rfl rfl rfl rfl (Nat.le_of_ble_eq_true (by kernel_rfl)) (fun _ _ _ _ h=>h) ?_
 intro _ C hC _ hE
 obtain ⟨P,w0,E0,av,hA,ro,df⟩:=C
 obtain ⟨rfl,rfl,rfl⟩:=hC
 refine swp_seq ?_
 refine zR [1] [0] (Ak 2 tv) ?_
 refine swp_seq ?_
 refine zC ([(2,CallSpec.eq (s46 (Pig.pounds p) 1 40) [true,true,true]),(8,CallSpec.eq (s46 (Pig.tin p) 0 (Pig.pounds p)) [true,true,true]),(18,CallSpec.eq (s46 (Pig.anti p) 0 (Pig.pounds p - Pig.tin p)) [true,true,true]),(23,CallSpec.eq (s46 (Pig.pence p) 0 99) [true,true,true]),(28,CallSpec.eq (s46 (Pig.many p) 0 5) [true,true,true])]) [2] [] (Ak 2 (An (An (An (zr (iv (Pig.pounds p))) (An (zr (iv 1)) (An (zr (iv 40)) tv))) (An (t46 (Pig.pounds p) (1) (40)) (Ak 2 (fun (i0:Env)=>tv)))) (Ak 1 (An (fun (y1:within (Pig.pounds p) 1 40=true)=>(An (Ak 1 tv) tv)) (An (fun (y2:within (Pig.pounds p) 1 40=true)=>(An (An (fun (y3:within (Pig.pounds p) 1 40=true)=>y2) tv) tv)) (An (fun (y4:within (Pig.pounds p) 1 40=true)=>(An (Ak 1 tv) tv)) (An (fun (y5:within (Pig.pounds p) 1 40=true)=>(An (An (fun (y6:within (Pig.pounds p) 1 40=true)=>y5) tv) tv)) (An (fun (y7:within (Pig.pounds p) 1 40=true)=>(An (Ak 1 (An (fun (y8:within (Pig.pounds p) 1 40=true)=>y7) (Ak 1 (An (fun (y9:within (Pig.pounds p) 1 40=true)=>y7) tv)))) (An (An (zr (iv (Pig.tin p))) (An (zr (iv 0)) (An (zr (iv (Pig.pounds p))) tv))) (An (t46 (Pig.tin p) (0) (Pig.pounds p)) (Ak 2 (fun (i10:Env)=>tv)))))) (An (An (fun (y11:within (Pig.pounds p) 1 40=true)=>y11) (fun (y12:within (Pig.pounds p) 1 40=false)=>tv)) (Ak 1 (An (fun (y13:(bif within (Pig.pounds p) 1 40 then within (Pig.tin p) 0 (Pig.pounds p) else false)=true)=>(An (Ak 1 tv) tv)) (An (fun (y14:(bif within (Pig.pounds p) 1 40 then within (Pig.tin p) 0 (Pig.pounds p) else false)=true)=>(An (An (fun (y15:(bif within (Pig.pounds p) 1 40 then within (Pig.tin p) 0 (Pig.pounds p) else false)=true)=>y14) tv) tv)) (An (fun (y16:(bif within (Pig.pounds p) 1 40 then within (Pig.tin p) 0 (Pig.pounds p) else false)=true)=>(An (Ak 1 tv) tv)) (An (fun (y17:(bif within (Pig.pounds p) 1 40 then within (Pig.tin p) 0 (Pig.pounds p) else false)=true)=>(An (An (fun (y18:(bif within (Pig.pounds p) 1 40 then within (Pig.tin p) 0 (Pig.pounds p) else false)=true)=>y17) tv) tv)) (An (fun (y19:(bif within (Pig.pounds p) 1 40 then within (Pig.tin p) 0 (Pig.pounds p) else false)=true)=>(An (Ak 1 tv) tv)) (An (fun (y20:(bif within (Pig.pounds p) 1 40 then within (Pig.tin p) 0 (Pig.pounds p) else false)=true)=>(An (An (fun (y21:(bif within (Pig.pounds p) 1 40 then within (Pig.tin p) 0 (Pig.pounds p) else false)=true)=>y20) tv) tv)) (An (fun (y22:(bif within (Pig.pounds p) 1 40 then within (Pig.tin p) 0 (Pig.pounds p) else false)=true)=>(An (An (fun (y23:(bif within (Pig.pounds p) 1 40 then within (Pig.tin p) 0 (Pig.pounds p) else false)=true)=>y22) (An (fun (y24:(bif within (Pig.pounds p) 1 40 then within (Pig.tin p) 0 (Pig.pounds p) else false)=true)=>y22) tv)) (o0 y22))) (An (fun (y25:(bif within (Pig.pounds p) 1 40 then within (Pig.tin p) 0 (Pig.pounds p) else false)=true)=>(An (Ak 1 (An (fun (y26:(bif within (Pig.pounds p) 1 40 then within (Pig.tin p) 0 (Pig.pounds p) else false)=true)=>y25) (Ak 1 (An (fun (y27:(bif within (Pig.pounds p) 1 40 then within (Pig.tin p) 0 (Pig.pounds p) else false)=true)=>y25) tv)))) (An (An (zr (iv (Pig.anti p))) (An (zr (iv 0)) (An (zr (iv (Pig.pounds p - Pig.tin p))) tv))) (An (t46 (Pig.anti p) (0) (Pig.pounds p - Pig.tin p)) (Ak 2 (fun (i28:Env)=>tv)))))) (An (An (fun (y29:(bif within (Pig.pounds p) 1 40 then within (Pig.tin p) 0 (Pig.pounds p) else false)=true)=>y29) (fun (y30:(bif within (Pig.pounds p) 1 40 then within (Pig.tin p) 0 (Pig.pounds p) else false)=false)=>tv)) (Ak 1 (An (fun (y31:(bif bif within (Pig.pounds p) 1 40 then within (Pig.tin p) 0 (Pig.pounds p) else false then within (Pig.anti p) 0 (Pig.pounds p - Pig.tin p) else false)=true)=>(An (Ak 1 tv) tv)) (An (fun (y32:(bif bif within (Pig.pounds p) 1 40 then within (Pig.tin p) 0 (Pig.pounds p) else false then within (Pig.anti p) 0 (Pig.pounds p - Pig.tin p) else false)=true)=>(An (An (fun (y33:(bif bif within (Pig.pounds p) 1 40 then within (Pig.tin p) 0 (Pig.pounds p) else false then within (Pig.anti p) 0 (Pig.pounds p - Pig.tin p) else false)=true)=>y32) tv) tv)) (An (fun (y34:(bif bif within (Pig.pounds p) 1 40 then within (Pig.tin p) 0 (Pig.pounds p) else false then within (Pig.anti p) 0 (Pig.pounds p - Pig.tin p) else false)=true)=>(An (Ak 1 (An (fun (y35:(bif bif within (Pig.pounds p) 1 40 then within (Pig.tin p) 0 (Pig.pounds p) else false then within (Pig.anti p) 0 (Pig.pounds p - Pig.tin p) else false)=true)=>y34) (Ak 2 tv))) (An (An (zr (iv (Pig.pence p))) (An (zr (iv 0)) (An (zr (iv 99)) tv))) (An (t46 (Pig.pence p) (0) (99)) (Ak 2 (fun (i36:Env)=>tv)))))) (An (An (fun (y37:(bif bif within (Pig.pounds p) 1 40 then within (Pig.tin p) 0 (Pig.pounds p) else false then within (Pig.anti p) 0 (Pig.pounds p - Pig.tin p) else false)=true)=>y37) (fun (y38:(bif bif within (Pig.pounds p) 1 40 then within (Pig.tin p) 0 (Pig.pounds p) else false then within (Pig.anti p) 0 (Pig.pounds p - Pig.tin p) else false)=false)=>tv)) (Ak 1 (An (fun (y39:(bif bif bif within (Pig.pounds p) 1 40 then within (Pig.tin p) 0 (Pig.pounds p) else false then within (Pig.anti p) 0 (Pig.pounds p - Pig.tin p) else false then within (Pig.pence p) 0 99 else false)=true)=>(An (Ak 1 tv) tv)) (An (fun (y40:(bif bif bif within (Pig.pounds p) 1 40 then within (Pig.tin p) 0 (Pig.pounds p) else false then within (Pig.anti p) 0 (Pig.pounds p - Pig.tin p) else false then within (Pig.pence p) 0 99 else false)=true)=>(An (An (fun (y41:(bif bif bif within (Pig.pounds p) 1 40 then within (Pig.tin p) 0 (Pig.pounds p) else false then within (Pig.anti p) 0 (Pig.pounds p - Pig.tin p) else false then within (Pig.pence p) 0 99 else false)=true)=>y40) tv) tv)) (An (fun (y42:(bif bif bif within (Pig.pounds p) 1 40 then within (Pig.tin p) 0 (Pig.pounds p) else false then within (Pig.anti p) 0 (Pig.pounds p - Pig.tin p) else false then within (Pig.pence p) 0 99 else false)=true)=>(An (Ak 1 (An (fun (y43:(bif bif bif within (Pig.pounds p) 1 40 then within (Pig.tin p) 0 (Pig.pounds p) else false then within (Pig.anti p) 0 (Pig.pounds p - Pig.tin p) else false then within (Pig.pence p) 0 99 else false)=true)=>y42) (Ak 2 tv))) (An (An (zr (iv (Pig.many p))) (An (zr (iv 0)) (An (zr (iv 5)) tv))) (An (t46 (Pig.many p) (0) (5)) (Ak 2 (fun (i44:Env)=>tv)))))) (An (An (fun (y45:(bif bif bif within (Pig.pounds p) 1 40 then within (Pig.tin p) 0 (Pig.pounds p) else false then within (Pig.anti p) 0 (Pig.pounds p - Pig.tin p) else false then within (Pig.pence p) 0 99 else false)=true)=>y45) (fun (y46:(bif bif bif within (Pig.pounds p) 1 40 then within (Pig.tin p) 0 (Pig.pounds p) else false then within (Pig.anti p) 0 (Pig.pounds p - Pig.tin p) else false then within (Pig.pence p) 0 99 else false)=false)=>tv)) (Ak 1 tv)))))))))))))))))))))))))))))) ?_
 refine swp_ret ?_
 exact zT [] (An (Ak 1 tv) (An (An (cb (o1)) (zr nilN)) (An (zr true) (An (zr true) (zr true)))))
theorem t54 (p:Pig):Triple Try.prog 54 (s54 p):=by
 apply w54
 case o0 =>
  simp only [Bool.cond_false_right,Bool.and_eq_true,Go.Sh.within_iff,inI]
  omega
 case o1=>simp only [Bool.cond_false_right]; rfl
abbrev q2 (s:Shop) (Pq:Prop):Prop:=fitsM s->(bif bif bif bif !okPot (Shop.pot s) then true else !within (Shop.room s) (Pot.pounds (Shop.pot s)) 999 then true else !isSpan (Shop.tinP s) 1000 then true else !isSpan (Shop.antiP s) 1000 then true else decide (4 < (↑((Shop.pigs s).length):Int)))=false->Pq
abbrev q3 (s:Shop) (x47:Nat) (Pq:Prop):Prop:=(x47<=(Shop.pigs s).length /\ ∀ (j:Nat),j < x47->okPig (pig s j)=true)->Pq
abbrev q4 (s:Shop) (x47:Nat) (Pq:Prop):Prop:=q3 s x47 (decide ((x47:Int) < (↑((Shop.pigs s).length):Int))=true->Pq)
theorem w21 (s:Shop)
 (o0:fitsM s->(!okPot (Shop.pot s))=false->(!!okPot (Shop.pot s))=true)
 (o1:fitsM s->(bif !okPot (Shop.pot s) then true else !within (Shop.room s) (Pot.pounds (Shop.pot s)) 999)=false->(!bif !okPot (Shop.pot s) then true else !within (Shop.room s) (Pot.pounds (Shop.pot s)) 999)=true)
 (o2:fitsM s->(bif bif !okPot (Shop.pot s) then true else !within (Shop.room s) (Pot.pounds (Shop.pot s)) 999 then true else !isSpan (Shop.tinP s) 1000)=false->(!bif bif !okPot (Shop.pot s) then true else !within (Shop.room s) (Pot.pounds (Shop.pot s)) 999 then true else !isSpan (Shop.tinP s) 1000)=true)
 (o3:fitsM s->(bif bif bif !okPot (Shop.pot s) then true else !within (Shop.room s) (Pot.pounds (Shop.pot s)) 999 then true else !isSpan (Shop.tinP s) 1000 then true else !isSpan (Shop.antiP s) 1000)=false->(!bif bif bif !okPot (Shop.pot s) then true else !within (Shop.room s) (Pot.pounds (Shop.pot s)) 999 then true else !isSpan (Shop.tinP s) 1000 then true else !isSpan (Shop.antiP s) 1000)=true)
 (o4:fitsM s->(bif bif bif bif !okPot (Shop.pot s) then true else !within (Shop.room s) (Pot.pounds (Shop.pot s)) 999 then true else !isSpan (Shop.tinP s) 1000 then true else !isSpan (Shop.antiP s) 1000 then true else decide (4 < (↑((Shop.pigs s).length):Int)))=true->10=checkM s)
 (o5:q2 s (0=(↑0:Int)))
 (o6:q2 s (0<=(Shop.pigs s).length /\ ∀ (j:Nat),j < 0->okPig (pig s j)=true))
 (o7:q2 s (∀ (x47:Nat),q4 s x47 (0<=(x47:Int))))
 (o8:q2 s (∀ (x47:Nat),q4 s x47 ((x47:Int) < (↑((Shop.pigs s).length):Int))))
 (o9:q2 s (∀ (x47:Nat),q4 s x47 ((!okPig (pig s x47))=true->10=checkM s)))
 (o10:q2 s (∀ (x47:Nat),q4 s x47 ((!okPig (pig s x47))=false->inI ((x47:Int) + 1))))
 (o11:q2 s (∀ (x47:Nat),q4 s x47 ((!okPig (pig s x47))=false->(x47:Int) + 1=(↑(x47 + 1):Int))))
 (o12:q2 s (∀ (x47:Nat),q4 s x47 ((!okPig (pig s x47))=false->x47 + 1<=(Shop.pigs s).length /\ ∀ (j:Nat),j < x47 + 1->okPig (pig s j)=true)))
 (o13:q2 s (∀ (x47:Nat),q4 s x47 ((!okPig (pig s x47))=false->(Shop.pigs s).length - (x47 + 1) < (Shop.pigs s).length - x47)))
 (o14:q2 s (∀ (x47:Nat),q3 s x47 (decide ((x47:Int) < (↑((Shop.pigs s).length):Int))=false->0=checkM s))) :
  Triple Try.prog 21 (s21 s):=by
 refine triple_of Try.func21 rfl Try.call21 T0_ok _ rfl rfl rfl rfl (Nat.le_of_ble_eq_true (by kernel_rfl)) (fun _ _ _ _ h=>h) ?_
 intro hpre C hC _ hE
 obtain ⟨P,w0,E0,av,hA,ro,df⟩:=C
 obtain ⟨rfl,rfl,rfl⟩:=hC
 refine swp_seq ?_
 refine zR [1] [0] (Ak 2 tv) ?_
 refine swp_seq ?_
 refine swp_seq ?_
 refine zC ([(2,CallSpec.eq (c21a s) [true]),(10,CallSpec.eq (s46 (Shop.room s) (Pot.pounds (Shop.pot s)) 999) [true,true,true]),(16,CallSpec.eq (c21b s) [true,true]),(22,CallSpec.eq (c21c s) [true,true])]) [1,34] [0] (Ak 2 (An (An (An (zr (AV.agg (cPot (Shop.pot s)))) tv) (An (t52 (Shop.pot s)) (Ak 2 (fun (i0:Env)=>tv)))) (Ak 2 (An (fun (y1:(!!okPot (Shop.pot s))=true)=>(An (Ak 1 tv) tv)) (An (fun (y2:(!!okPot (Shop.pot s))=true)=>(An (An (fun (y3:(!!okPot (Shop.pot s))=true)=>y2) tv) tv)) (An (fun (y4:(!!okPot (Shop.pot s))=true)=>(An (Ak 1 tv) tv)) (An (fun (y5:(!!okPot (Shop.pot s))=true)=>(An (An (fun (y6:(!!okPot (Shop.pot s))=true)=>y5) tv) tv)) (An (fun (y7:(!!okPot (Shop.pot s))=true)=>(An (An (fun (y8:(!!okPot (Shop.pot s))=true)=>y7) tv) tv)) (An (fun (y9:(!!okPot (Shop.pot s))=true)=>(An (Ak 1 (An (fun (y10:(!!okPot (Shop.pot s))=true)=>y9) (An (fun (y11:(!!okPot (Shop.pot s))=true)=>y9) (Ak 1 tv)))) (An (An (zr (iv (Shop.room s))) (An (zr (iv (Pot.pounds (Shop.pot s)))) (An (zr (iv 999)) tv))) (An (t46 (Shop.room s) (Pot.pounds (Shop.pot s)) (999)) (Ak 2 (fun (i12:Env)=>tv)))))) (An (fun (y13:(!!okPot (Shop.pot s))=true)=>(An (An (fun (y14:(!!okPot (Shop.pot s))=true)=>y13) tv) tv)) (An (An (fun (y15:(!okPot (Shop.pot s))=true)=>tv) (fun (y16:(!okPot (Shop.pot s))=false)=>(o0 hpre y16))) (Ak 1 (An (fun (y17:(!bif !okPot (Shop.pot s) then true else !within (Shop.room s) (Pot.pounds (Shop.pot s)) 999)=true)=>(An (Ak 1 tv) tv)) (An (fun (y18:(!bif !okPot (Shop.pot s) then true else !within (Shop.room s) (Pot.pounds (Shop.pot s)) 999)=true)=>(An (An (fun (y19:(!bif !okPot (Shop.pot s) then true else !within (Shop.room s) (Pot.pounds (Shop.pot s)) 999)=true)=>y18) tv) tv)) (An (fun (y20:(!bif !okPot (Shop.pot s) then true else !within (Shop.room s) (Pot.pounds (Shop.pot s)) 999)=true)=>(An (Ak 1 (An (fun (y21:(!bif !okPot (Shop.pot s) then true else !within (Shop.room s) (Pot.pounds (Shop.pot s)) 999)=true)=>y20) (Ak 1 tv))) (An (An (zr (AV.agg (cSpan (Shop.tinP s)))) (An (zr (iv 1000)) tv)) (An (t53 (Shop.tinP s) (1000)) (Ak 2 (fun (i22:Env)=>tv)))))) (An (fun (y23:(!bif !okPot (Shop.pot s) then true else !within (Shop.room s) (Pot.pounds (Shop.pot s)) 999)=true)=>(An (An (fun (y24:(!bif !okPot (Shop.pot s) then true else !within (Shop.room s) (Pot.pounds (Shop.pot s)) 999)=true)=>y23) tv) tv)) (An (An (fun (y25:(bif !okPot (Shop.pot s) then true else !within (Shop.room s) (Pot.pounds (Shop.pot s)) 999)=true)=>tv) (fun (y26:(bif !okPot (Shop.pot s) then true else !within (Shop.room s) (Pot.pounds (Shop.pot s)) 999)=false)=>(o1 hpre y26))) (Ak 1 (An (fun (y27:(!bif bif !okPot (Shop.pot s) then true else !within (Shop.room s) (Pot.pounds (Shop.pot s)) 999 then true else !isSpan (Shop.tinP s) 1000)=true)=>(An (Ak 1 tv) tv)) (An (fun (y28:(!bif bif !okPot (Shop.pot s) then true else !within (Shop.room s) (Pot.pounds (Shop.pot s)) 999 then true else !isSpan (Shop.tinP s) 1000)=true)=>(An (An (fun (y29:(!bif bif !okPot (Shop.pot s) then true else !within (Shop.room s) (Pot.pounds (Shop.pot s)) 999 then true else !isSpan (Shop.tinP s) 1000)=true)=>y28) tv) tv)) (An (fun (y30:(!bif bif !okPot (Shop.pot s) then true else !within (Shop.room s) (Pot.pounds (Shop.pot s)) 999 then true else !isSpan (Shop.tinP s) 1000)=true)=>(An (Ak 1 (An (fun (y31:(!bif bif !okPot (Shop.pot s) then true else !within (Shop.room s) (Pot.pounds (Shop.pot s)) 999 then true else !isSpan (Shop.tinP s) 1000)=true)=>y30) (Ak 1 tv))) (An (An (zr (AV.agg (cSpan (Shop.antiP s)))) (An (zr (iv 1000)) tv)) (An (t53 (Shop.antiP s) (1000)) (Ak 2 (fun (i32:Env)=>tv)))))) (An (fun (y33:(!bif bif !okPot (Shop.pot s) then true else !within (Shop.room s) (Pot.pounds (Shop.pot s)) 999 then true else !isSpan (Shop.tinP s) 1000)=true)=>(An (An (fun (y34:(!bif bif !okPot (Shop.pot s) then true else !within (Shop.room s) (Pot.pounds (Shop.pot s)) 999 then true else !isSpan (Shop.tinP s) 1000)=true)=>y33) tv) tv)) (An (An (fun (y35:(bif bif !okPot (Shop.pot s) then true else !within (Shop.room s) (Pot.pounds (Shop.pot s)) 999 then true else !isSpan (Shop.tinP s) 1000)=true)=>tv) (fun (y36:(bif bif !okPot (Shop.pot s) then true else !within (Shop.room s) (Pot.pounds (Shop.pot s)) 999 then true else !isSpan (Shop.tinP s) 1000)=false)=>(o2 hpre y36))) (Ak 1 (An (fun (y37:(!bif bif bif !okPot (Shop.pot s) then true else !within (Shop.room s) (Pot.pounds (Shop.pot s)) 999 then true else !isSpan (Shop.tinP s) 1000 then true else !isSpan (Shop.antiP s) 1000)=true)=>(An (Ak 1 tv) tv)) (An (fun (y38:(!bif bif bif !okPot (Shop.pot s) then true else !within (Shop.room s) (Pot.pounds (Shop.pot s)) 999 then true else !isSpan (Shop.tinP s) 1000 then true else !isSpan (Shop.antiP s) 1000)=true)=>(An (An (fun (y39:(!bif bif bif !okPot (Shop.pot s) then true else !within (Shop.room s) (Pot.pounds (Shop.pot s)) 999 then true else !isSpan (Shop.tinP s) 1000 then true else !isSpan (Shop.antiP s) 1000)=true)=>y38) tv) tv)) (An (fun (y40:(!bif bif bif !okPot (Shop.pot s) then true else !within (Shop.room s) (Pot.pounds (Shop.pot s)) 999 then true else !isSpan (Shop.tinP s) 1000 then true else !isSpan (Shop.antiP s) 1000)=true)=>(An (An (fun (y41:(!bif bif bif !okPot (Shop.pot s) then true else !within (Shop.room s) (Pot.pounds (Shop.pot s)) 999 then true else !isSpan (Shop.tinP s) 1000 then true else !isSpan (Shop.antiP s) 1000)=true)=>y40) tv) tv)) (An (fun (y42:(!bif bif bif !okPot (Shop.pot s) then true else !within (Shop.room s) (Pot.pounds (Shop.pot s)) 999 then true else !isSpan (Shop.tinP s) 1000 then true else !isSpan (Shop.antiP s) 1000)=true)=>(An (An (fun (y43:(!bif bif bif !okPot (Shop.pot s) then true else !within (Shop.room s) (Pot.pounds (Shop.pot s)) 999 then true else !isSpan (Shop.tinP s) 1000 then true else !isSpan (Shop.antiP s) 1000)=true)=>y42) (Ak 1 tv)) tv)) (An (An (fun (y44:(bif bif bif !okPot (Shop.pot s) then true else !within (Shop.room s) (Pot.pounds (Shop.pot s)) 999 then true else !isSpan (Shop.tinP s) 1000 then true else !isSpan (Shop.antiP s) 1000)=true)=>tv) (fun (y45:(bif bif bif !okPot (Shop.pot s) then true else !within (Shop.room s) (Pot.pounds (Shop.pot s)) 999 then true else !isSpan (Shop.tinP s) 1000 then true else !isSpan (Shop.antiP s) 1000)=false)=>(o3 hpre y45))) tv))))))))))))))))))))))))))))) ?_
 refine zI (bif bif bif bif !okPot (Shop.pot s) then true else !within (Shop.room s) (Pot.pounds (Shop.pot s)) 999 then true else !isSpan (Shop.tinP s) 1000 then true else !isSpan (Shop.antiP s) 1000 then true else decide (4 < (↑((Shop.pigs s).length):Int))) (fun y46 => ?_) (fun y46 => ?_)
 ·refine swp_seq ?_
  refine zR [2] [] (Ak 1 tv) ?_
  refine swp_ret ?_
  exact zT [] (An (Ak 1 tv) (An (An (ci (o4 hpre y46)) (zr nilN)) (An (zr true) (An (zr true) (zr true)))))
 ·refine swp_skip ?_
  refine swp_seq ?_
  refine swp_seq ?_
  refine zR [1,3] [0] (Ak 1 tv) ?_
  refine swp_block ?_
  refine zL (Hint.ann (h21 s) [(1,AV.ptr 0 [])] [(0,OB.cells 56 (cShop s))] 10272) (zE hE [] [(0,.same 0)] [] [0] (An (An (An (zr (some (Src.same 0))) (zr nilP)) (An (An (ci (o5 hpre y46)) (zr nilN)) tv)) (An (An (An (zr (OB.cells 56 (cShop s))) (zr true)) tv) (An (zr true) (zr true))))) (o6 hpre y46) (fun (x47:Nat) hx47 => ?_)
  refine swp_seq ?_
  refine swp_seq ?_
  refine zR [1,3,39] [0] (Ak 5 tv) ?_
  refine zI (decide ((x47:Int) < (↑((Shop.pigs s).length):Int))) (fun y48 => ?_) (fun y48 => ?_)
  ·refine swp_skip ?_
   refine swp_seq ?_
   refine swp_block ?_
   refine swp_seq ?_
   refine zC ([(5,CallSpec.eq (s54 (pig s x47)) [true])]) [1,3,48] [0] (Ak 3 (An (An (o7 hpre y46 x47 hx47 y48) (o8 hpre y46 x47 hx47 y48)) (Ak 1 (An (An (An (zr (AV.agg (cPig (pig s x47)))) tv) (An (t54 (pig s x47)) (Ak 2 (fun (i49:Env)=>tv)))) (Ak 1 tv))))) ?_
   refine zI (!okPig (pig s x47)) (fun y50 => ?_) (fun y50 => ?_)
   ·refine swp_seq ?_
    refine zR [2] [] (Ak 1 tv) ?_
    refine swp_ret ?_
    exact zT [] (An (Ak 1 tv) (An (An (ci (o9 hpre y46 x47 hx47 y48 y50)) (zr nilN)) (An (zr true) (An (zr true) (zr true)))))
   ·refine swp_skip ?_
    refine zR [1,3] [0] (Ak 1 (An (o10 hpre y46 x47 hx47 y48 y50) (Ak 1 tv))) ?_
    exact zn (zE hE [] [(0,.same 0)] [] [0] (An (An (An (zr (some (Src.same 0))) (zr nilP)) (An (An (ci (o11 hpre y46 x47 hx47 y48 y50)) (zr nilN)) tv)) (An (An (An (zr (OB.cells 56 (cShop s))) (zr true)) tv) (An (zr true) (zr true))))) (o12 hpre y46 x47 hx47 y48 y50) (o13 hpre y46 x47 hx47 y48 y50)
  ·refine swp_exit ?_
   refine swp_seq ?_
   refine zR [2] [] (Ak 1 tv) ?_
   refine swp_ret ?_
   exact zT [] (An (Ak 1 tv) (An (An (ci (o14 hpre y46 x47 hx47 y48)) (zr nilN)) (An (zr true) (An (zr true) (zr true)))))
theorem t21 (s:Shop):Triple Try.prog 21 (s21 s):=by
 apply w21
 all_goals (try delta q2 q3 q4)
 case o4 =>
  intro _ h; rw [headM_eq] at h
  unfold checkM
  rw [if_neg]; intro h2; rw [(okM_iff.1 h2).1] at h; cases h
 case o9 =>
  intro _ _ x hx h h2
  simp only [decide_eq_true_eq] at h
  unfold checkM
  rw [if_neg]; intro h3; rw [(okM_iff.1 h3).2 x (by omega)] at h2; cases h2
 case o12 =>
  intro _ _ x hx h h2
  simp only [decide_eq_true_eq] at h
  exact ⟨by omega,lt_succ_cases hx.2 (by simpa using h2)⟩
 case o14 =>
  intro _ h0 x hx h
  rw [headM_eq] at h0
  simp only [decide_eq_false_iff_not] at h
  unfold checkM
  rw [if_pos]
  exact okM_iff.2 ⟨by simpa using h0,fun j hj=>hx.2 j (by omega)⟩
 all_goals (try (first | (intro _ h; rw [h]; rfl) | ((repeat intro _) <;> (try simp only [Bool.cond_true_left,Bool.cond_false_right,Bool.not_not,Bool.not_eq_true',Bool.not_eq_false',Bool.or_eq_true,Bool.or_eq_false_iff,Bool.and_eq_true,decide_eq_true_eq,decide_eq_false_iff_not,inI,big] at *) <;> first | (exact rfl) | omega | (exact ⟨Nat.zero_le _,fun j hj=>absurd hj (Nat.not_lt_zero j)⟩) | (simp_all; done) | (simp_all; omega))))
 all_goals (intros; simp_all [fitsM]; try omega)
abbrev q5 (s:Shop) (x40:Nat) (Pq:Prop):Prop:=x40<=(Shop.pigs s).length->Pq
abbrev q6 (s:Shop) (x40:Nat) (Pq:Prop):Prop:=q5 s x40 (decide ((x40:Int) < (↑((Shop.pigs s).length):Int))=true->Pq)
theorem w98 (s:Shop)
 (o0:fitsM s->(bif bif bif bif okPot (Shop.pot s) then within (Shop.room s) (Pot.pounds (Shop.pot s)) 999 else false then isSpan (Shop.tinP s) 1000 else false then isSpan (Shop.antiP s) 1000 else false then decide ((↑((Shop.pigs s).length):Int)<=4) else false)=okMTo s 0)
 (o1:fitsM s->0=(↑0:Int))
 (o2:fitsM s->0<=List.length (Shop.pigs s))
 (o3:fitsM s -> ∀ (x40:Nat),q6 s x40 (0<=(x40:Int)))
 (o4:fitsM s -> ∀ (x40:Nat),q6 s x40 ((x40:Int) < (↑((Shop.pigs s).length):Int)))
 (o5:fitsM s -> ∀ (x40:Nat),q6 s x40 ((bif bif okMTo s x40 then within (Pig.pounds (pig s x40)) 1 40 else false then within (Pig.tin (pig s x40)) 0 (Pig.pounds (pig s x40)) else false)=true->inI (Pig.pounds (pig s x40) - Pig.tin (pig s x40))))
 (o6:fitsM s -> ∀ (x40:Nat),q6 s x40 (inI ((x40:Int) + 1)))
 (o7:fitsM s -> ∀ (x40:Nat),q6 s x40 ((bif bif bif bif bif okMTo s x40 then within (Pig.pounds (pig s x40)) 1 40 else false then within (Pig.tin (pig s x40)) 0 (Pig.pounds (pig s x40)) else false then within (Pig.anti (pig s x40)) 0 (Pig.pounds (pig s x40) - Pig.tin (pig s x40)) else false then within (Pig.pence (pig s x40)) 0 99 else false then within (Pig.many (pig s x40)) 0 5 else false)=okMTo s (x40 + 1)))
 (o8:fitsM s -> ∀ (x40:Nat),q6 s x40 ((x40:Int) + 1=(↑(x40 + 1):Int)))
 (o9:fitsM s -> ∀ (x40:Nat),q6 s x40 (x40 + 1<=(Shop.pigs s).length))
 (o10:fitsM s -> ∀ (x40:Nat),q6 s x40 ((Shop.pigs s).length - (x40 + 1) < (Shop.pigs s).length - x40))
 (o11:fitsM s -> ∀ (x40:Nat),q5 s x40 (decide ((x40:Int) < (↑((Shop.pigs s).length):Int))=false->(!okMTo s x40)=true->10=checkM s))
 (o12:fitsM s -> ∀ (x40:Nat),q5 s x40 (decide ((x40:Int) < (↑((Shop.pigs s).length):Int))=false->(!okMTo s x40)=false->0=checkM s)) :
  Triple Try.prog 98 (s98 s):=by
 refine triple_of Try.func98 rfl Try.call98 T0_ok _ rfl rfl rfl rfl (Nat.le_of_ble_eq_true (by kernel_rfl)) (fun _ _ _ _ h=>h) ?_
 intro hpre C hC _ hE
 obtain ⟨P,w0,E0,av,hA,ro,df⟩:=C
 obtain ⟨rfl,rfl,rfl⟩:=hC
 refine swp_seq ?_
 refine zR [1] [0] (Ak 2 tv) ?_
 refine swp_seq ?_
 refine zC ([(2,CallSpec.eq (c98a s) [true]),(9,CallSpec.eq (s99 (Shop.room s) (Pot.pounds (Shop.pot s)) 999) [true,true,true]),(14,CallSpec.eq (c98b s) [true,true]),(19,CallSpec.eq (c98c s) [true,true])]) [1,3] [0] (Ak 2 (An (An (An (zr (AV.agg (cPot (Shop.pot s)))) tv) (An (t130 (Shop.pot s)) (Ak 2 (fun (i0:Env)=>tv)))) (Ak 1 (An (fun (y1:okPot (Shop.pot s)=true)=>(An (Ak 1 tv) tv)) (An (fun (y2:okPot (Shop.pot s)=true)=>(An (An (fun (y3:okPot (Shop.pot s)=true)=>y2) tv) tv)) (An (fun (y4:okPot (Shop.pot s)=true)=>(An (Ak 1 tv) tv)) (An (fun (y5:okPot (Shop.pot s)=true)=>(An (An (fun (y6:okPot (Shop.pot s)=true)=>y5) tv) tv)) (An (fun (y7:okPot (Shop.pot s)=true)=>(An (An (fun (y8:okPot (Shop.pot s)=true)=>y7) tv) tv)) (An (fun (y9:okPot (Shop.pot s)=true)=>(An (Ak 1 (An (fun (y10:okPot (Shop.pot s)=true)=>y9) (An (fun (y11:okPot (Shop.pot s)=true)=>y9) (Ak 1 tv)))) (An (An (zr (iv (Shop.room s))) (An (zr (iv (Pot.pounds (Shop.pot s)))) (An (zr (iv 999)) tv))) (An (t99 (Shop.room s) (Pot.pounds (Shop.pot s)) (999)) (Ak 2 (fun (i12:Env)=>tv)))))) (An (An (fun (y13:okPot (Shop.pot s)=true)=>y13) (fun (y14:okPot (Shop.pot s)=false)=>tv)) (Ak 1 (An (fun (y15:(bif okPot (Shop.pot s) then within (Shop.room s) (Pot.pounds (Shop.pot s)) 999 else false)=true)=>(An (Ak 1 tv) tv)) (An (fun (y16:(bif okPot (Shop.pot s) then within (Shop.room s) (Pot.pounds (Shop.pot s)) 999 else false)=true)=>(An (An (fun (y17:(bif okPot (Shop.pot s) then within (Shop.room s) (Pot.pounds (Shop.pot s)) 999 else false)=true)=>y16) tv) tv)) (An (fun (y18:(bif okPot (Shop.pot s) then within (Shop.room s) (Pot.pounds (Shop.pot s)) 999 else false)=true)=>(An (Ak 1 (An (fun (y19:(bif okPot (Shop.pot s) then within (Shop.room s) (Pot.pounds (Shop.pot s)) 999 else false)=true)=>y18) (Ak 1 tv))) (An (An (zr (AV.agg (cSpan (Shop.tinP s)))) (An (zr (iv 1000)) tv)) (An (t131 (Shop.tinP s) (1000)) (Ak 2 (fun (i20:Env)=>tv)))))) (An (An (fun (y21:(bif okPot (Shop.pot s) then within (Shop.room s) (Pot.pounds (Shop.pot s)) 999 else false)=true)=>y21) (fun (y22:(bif okPot (Shop.pot s) then within (Shop.room s) (Pot.pounds (Shop.pot s)) 999 else false)=false)=>tv)) (Ak 1 (An (fun (y23:(bif bif okPot (Shop.pot s) then within (Shop.room s) (Pot.pounds (Shop.pot s)) 999 else false then isSpan (Shop.tinP s) 1000 else false)=true)=>(An (Ak 1 tv) tv)) (An (fun (y24:(bif bif okPot (Shop.pot s) then within (Shop.room s) (Pot.pounds (Shop.pot s)) 999 else false then isSpan (Shop.tinP s) 1000 else false)=true)=>(An (An (fun (y25:(bif bif okPot (Shop.pot s) then within (Shop.room s) (Pot.pounds (Shop.pot s)) 999 else false then isSpan (Shop.tinP s) 1000 else false)=true)=>y24) tv) tv)) (An (fun (y26:(bif bif okPot (Shop.pot s) then within (Shop.room s) (Pot.pounds (Shop.pot s)) 999 else false then isSpan (Shop.tinP s) 1000 else false)=true)=>(An (Ak 1 (An (fun (y27:(bif bif okPot (Shop.pot s) then within (Shop.room s) (Pot.pounds (Shop.pot s)) 999 else false then isSpan (Shop.tinP s) 1000 else false)=true)=>y26) (Ak 1 tv))) (An (An (zr (AV.agg (cSpan (Shop.antiP s)))) (An (zr (iv 1000)) tv)) (An (t131 (Shop.antiP s) (1000)) (Ak 2 (fun (i28:Env)=>tv)))))) (An (An (fun (y29:(bif bif okPot (Shop.pot s) then within (Shop.room s) (Pot.pounds (Shop.pot s)) 999 else false then isSpan (Shop.tinP s) 1000 else false)=true)=>y29) (fun (y30:(bif bif okPot (Shop.pot s) then within (Shop.room s) (Pot.pounds (Shop.pot s)) 999 else false then isSpan (Shop.tinP s) 1000 else false)=false)=>tv)) (Ak 1 (An (fun (y31:(bif bif bif okPot (Shop.pot s) then within (Shop.room s) (Pot.pounds (Shop.pot s)) 999 else false then isSpan (Shop.tinP s) 1000 else false then isSpan (Shop.antiP s) 1000 else false)=true)=>(An (Ak 1 tv) tv)) (An (fun (y32:(bif bif bif okPot (Shop.pot s) then within (Shop.room s) (Pot.pounds (Shop.pot s)) 999 else false then isSpan (Shop.tinP s) 1000 else false then isSpan (Shop.antiP s) 1000 else false)=true)=>(An (An (fun (y33:(bif bif bif okPot (Shop.pot s) then within (Shop.room s) (Pot.pounds (Shop.pot s)) 999 else false then isSpan (Shop.tinP s) 1000 else false then isSpan (Shop.antiP s) 1000 else false)=true)=>y32) tv) tv)) (An (fun (y34:(bif bif bif okPot (Shop.pot s) then within (Shop.room s) (Pot.pounds (Shop.pot s)) 999 else false then isSpan (Shop.tinP s) 1000 else false then isSpan (Shop.antiP s) 1000 else false)=true)=>(An (An (fun (y35:(bif bif bif okPot (Shop.pot s) then within (Shop.room s) (Pot.pounds (Shop.pot s)) 999 else false then isSpan (Shop.tinP s) 1000 else false then isSpan (Shop.antiP s) 1000 else false)=true)=>y34) tv) tv)) (An (fun (y36:(bif bif bif okPot (Shop.pot s) then within (Shop.room s) (Pot.pounds (Shop.pot s)) 999 else false then isSpan (Shop.tinP s) 1000 else false then isSpan (Shop.antiP s) 1000 else false)=true)=>(An (An (fun (y37:(bif bif bif okPot (Shop.pot s) then within (Shop.room s) (Pot.pounds (Shop.pot s)) 999 else false then isSpan (Shop.tinP s) 1000 else false then isSpan (Shop.antiP s) 1000 else false)=true)=>y36) (Ak 1 tv)) tv)) (An (An (fun (y38:(bif bif bif okPot (Shop.pot s) then within (Shop.room s) (Pot.pounds (Shop.pot s)) 999 else false then isSpan (Shop.tinP s) 1000 else false then isSpan (Shop.antiP s) 1000 else false)=true)=>y38) (fun (y39:(bif bif bif okPot (Shop.pot s) then within (Shop.room s) (Pot.pounds (Shop.pot s)) 999 else false then isSpan (Shop.tinP s) 1000 else false then isSpan (Shop.antiP s) 1000 else false)=false)=>tv)) (Ak 1 tv))))))))))))))))))))))))))) ?_
 refine swp_seq ?_
 refine swp_seq ?_
 refine zR [3,34,35,36] [] (Ak 4 tv) ?_
 refine swp_block ?_
 refine zL (Hint.ann (h98 s) [(34,AV.sl 5 (Shop.pigs s).length fun (i:Nat)=>cPig (pig s i)),(35,iv (↑((Shop.pigs s).length):Int))] [] 10272) (zE hE [] [] [34,35] [] (An (An (An (zr (AV.sl 5 (Shop.pigs s).length fun (i:Nat)=>cPig (pig s i))) (zr true)) (An (An (zr (iv (↑((Shop.pigs s).length):Int))) (zr true)) (An (An (cb (o0 hpre)) (zr nilN)) (An (An (ci (o1 hpre)) (zr nilN)) tv)))) (Ak 1 (An (zr true) (zr true))))) (o2 hpre) (fun (x40:Nat) hx40 => ?_)
 refine swp_seq ?_
 refine zR [34,35,3,36,37] [] (Ak 1 tv) ?_
 refine swp_seq ?_
 refine zI (decide ((x40:Int) < (↑((Shop.pigs s).length):Int))) (fun y41 => ?_) (fun y41 => ?_)
 ·refine swp_skip ?_
  refine swp_seq ?_
  refine swp_block ?_
  refine swp_seq ?_
  refine zR [34,35,3,36,5] [10296] (An (An (o3 hpre x40 hx40 y41) (o4 hpre x40 hx40 y41)) (Ak 3 tv)) ?_
  refine zC ([(4,CallSpec.eq (s99 (Pig.pounds (pig s x40)) 1 40) [true,true,true]),(11,CallSpec.eq (s99 (Pig.tin (pig s x40)) 0 (Pig.pounds (pig s x40))) [true,true,true]),(21,CallSpec.eq (s99 (Pig.anti (pig s x40)) 0 (Pig.pounds (pig s x40) - Pig.tin (pig s x40))) [true,true,true]),(26,CallSpec.eq (s99 (Pig.pence (pig s x40)) 0 99) [true,true,true]),(31,CallSpec.eq (s99 (Pig.many (pig s x40)) 0 5) [true,true,true])]) [34,35,3,36] [] (Ak 2 (An (fun (y42:okMTo s x40=true)=>(An (Ak 1 tv) tv)) (An (fun (y43:okMTo s x40=true)=>(An (An (fun (y44:okMTo s x40=true)=>y43) tv) tv)) (An (fun (y45:okMTo s x40=true)=>(An (Ak 1 (An (fun (y46:okMTo s x40=true)=>y45) (Ak 2 tv))) (An (An (zr (iv (Pig.pounds (pig s x40)))) (An (zr (iv 1)) (An (zr (iv 40)) tv))) (An (t99 (Pig.pounds (pig s x40)) (1) (40)) (Ak 2 (fun (i47:Env)=>tv)))))) (An (An (fun (y48:okMTo s x40=true)=>y48) (fun (y49:okMTo s x40=false)=>tv)) (Ak 1 (An (fun (y50:(bif okMTo s x40 then within (Pig.pounds (pig s x40)) 1 40 else false)=true)=>(An (Ak 1 tv) tv)) (An (fun (y51:(bif okMTo s x40 then within (Pig.pounds (pig s x40)) 1 40 else false)=true)=>(An (An (fun (y52:(bif okMTo s x40 then within (Pig.pounds (pig s x40)) 1 40 else false)=true)=>y51) tv) tv)) (An (fun (y53:(bif okMTo s x40 then within (Pig.pounds (pig s x40)) 1 40 else false)=true)=>(An (Ak 1 tv) tv)) (An (fun (y54:(bif okMTo s x40 then within (Pig.pounds (pig s x40)) 1 40 else false)=true)=>(An (An (fun (y55:(bif okMTo s x40 then within (Pig.pounds (pig s x40)) 1 40 else false)=true)=>y54) tv) tv)) (An (fun (y56:(bif okMTo s x40 then within (Pig.pounds (pig s x40)) 1 40 else false)=true)=>(An (Ak 1 (An (fun (y57:(bif okMTo s x40 then within (Pig.pounds (pig s x40)) 1 40 else false)=true)=>y56) (Ak 1 (An (fun (y58:(bif okMTo s x40 then within (Pig.pounds (pig s x40)) 1 40 else false)=true)=>y56) tv)))) (An (An (zr (iv (Pig.tin (pig s x40)))) (An (zr (iv 0)) (An (zr (iv (Pig.pounds (pig s x40)))) tv))) (An (t99 (Pig.tin (pig s x40)) (0) (Pig.pounds (pig s x40))) (Ak 2 (fun (i59:Env)=>tv)))))) (An (An (fun (y60:(bif okMTo s x40 then within (Pig.pounds (pig s x40)) 1 40 else false)=true)=>y60) (fun (y61:(bif okMTo s x40 then within (Pig.pounds (pig s x40)) 1 40 else false)=false)=>tv)) (Ak 1 (An (fun (y62:(bif bif okMTo s x40 then within (Pig.pounds (pig s x40)) 1 40 else false then within (Pig.tin (pig s x40)) 0 (Pig.pounds (pig s x40)) else false)=true)=>(An (Ak 1 tv) tv)) (An (fun (y63:(bif bif okMTo s x40 then within (Pig.pounds (pig s x40)) 1 40 else false then within (Pig.tin (pig s x40)) 0 (Pig.pounds (pig s x40)) else false)=true)=>(An (An (fun (y64:(bif bif okMTo s x40 then within (Pig.pounds (pig s x40)) 1 40 else false then within (Pig.tin (pig s x40)) 0 (Pig.pounds (pig s x40)) else false)=true)=>y63) tv) tv)) (An (fun (y65:(bif bif okMTo s x40 then within (Pig.pounds (pig s x40)) 1 40 else false then within (Pig.tin (pig s x40)) 0 (Pig.pounds (pig s x40)) else false)=true)=>(An (Ak 1 tv) tv)) (An (fun (y66:(bif bif okMTo s x40 then within (Pig.pounds (pig s x40)) 1 40 else false then within (Pig.tin (pig s x40)) 0 (Pig.pounds (pig s x40)) else false)=true)=>(An (An (fun (y67:(bif bif okMTo s x40 then within (Pig.pounds (pig s x40)) 1 40 else false then within (Pig.tin (pig s x40)) 0 (Pig.pounds (pig s x40)) else false)=true)=>y66) tv) tv)) (An (fun (y68:(bif bif okMTo s x40 then within (Pig.pounds (pig s x40)) 1 40 else false then within (Pig.tin (pig s x40)) 0 (Pig.pounds (pig s x40)) else false)=true)=>(An (Ak 1 tv) tv)) (An (fun (y69:(bif bif okMTo s x40 then within (Pig.pounds (pig s x40)) 1 40 else false then within (Pig.tin (pig s x40)) 0 (Pig.pounds (pig s x40)) else false)=true)=>(An (An (fun (y70:(bif bif okMTo s x40 then within (Pig.pounds (pig s x40)) 1 40 else false then within (Pig.tin (pig s x40)) 0 (Pig.pounds (pig s x40)) else false)=true)=>y69) tv) tv)) (An (fun (y71:(bif bif okMTo s x40 then within (Pig.pounds (pig s x40)) 1 40 else false then within (Pig.tin (pig s x40)) 0 (Pig.pounds (pig s x40)) else false)=true)=>(An (An (fun (y72:(bif bif okMTo s x40 then within (Pig.pounds (pig s x40)) 1 40 else false then within (Pig.tin (pig s x40)) 0 (Pig.pounds (pig s x40)) else false)=true)=>y71) (An (fun (y73:(bif bif okMTo s x40 then within (Pig.pounds (pig s x40)) 1 40 else false then within (Pig.tin (pig s x40)) 0 (Pig.pounds (pig s x40)) else false)=true)=>y71) tv)) (o5 hpre x40 hx40 y41 y71))) (An (fun (y74:(bif bif okMTo s x40 then within (Pig.pounds (pig s x40)) 1 40 else false then within (Pig.tin (pig s x40)) 0 (Pig.pounds (pig s x40)) else false)=true)=>(An (Ak 1 (An (fun (y75:(bif bif okMTo s x40 then within (Pig.pounds (pig s x40)) 1 40 else false then within (Pig.tin (pig s x40)) 0 (Pig.pounds (pig s x40)) else false)=true)=>y74) (Ak 1 (An (fun (y76:(bif bif okMTo s x40 then within (Pig.pounds (pig s x40)) 1 40 else false then within (Pig.tin (pig s x40)) 0 (Pig.pounds (pig s x40)) else false)=true)=>y74) tv)))) (An (An (zr (iv (Pig.anti (pig s x40)))) (An (zr (iv 0)) (An (zr (iv (Pig.pounds (pig s x40) - Pig.tin (pig s x40)))) tv))) (An (t99 (Pig.anti (pig s x40)) (0) (Pig.pounds (pig s x40) - Pig.tin (pig s x40))) (Ak 2 (fun (i77:Env)=>tv)))))) (An (An (fun (y78:(bif bif okMTo s x40 then within (Pig.pounds (pig s x40)) 1 40 else false then within (Pig.tin (pig s x40)) 0 (Pig.pounds (pig s x40)) else false)=true)=>y78) (fun (y79:(bif bif okMTo s x40 then within (Pig.pounds (pig s x40)) 1 40 else false then within (Pig.tin (pig s x40)) 0 (Pig.pounds (pig s x40)) else false)=false)=>tv)) (Ak 1 (An (fun (y80:(bif bif bif okMTo s x40 then within (Pig.pounds (pig s x40)) 1 40 else false then within (Pig.tin (pig s x40)) 0 (Pig.pounds (pig s x40)) else false then within (Pig.anti (pig s x40)) 0 (Pig.pounds (pig s x40) - Pig.tin (pig s x40)) else false)=true)=>(An (Ak 1 tv) tv)) (An (fun (y81:(bif bif bif okMTo s x40 then within (Pig.pounds (pig s x40)) 1 40 else false then within (Pig.tin (pig s x40)) 0 (Pig.pounds (pig s x40)) else false then within (Pig.anti (pig s x40)) 0 (Pig.pounds (pig s x40) - Pig.tin (pig s x40)) else false)=true)=>(An (An (fun (y82:(bif bif bif okMTo s x40 then within (Pig.pounds (pig s x40)) 1 40 else false then within (Pig.tin (pig s x40)) 0 (Pig.pounds (pig s x40)) else false then within (Pig.anti (pig s x40)) 0 (Pig.pounds (pig s x40) - Pig.tin (pig s x40)) else false)=true)=>y81) tv) tv)) (An (fun (y83:(bif bif bif okMTo s x40 then within (Pig.pounds (pig s x40)) 1 40 else false then within (Pig.tin (pig s x40)) 0 (Pig.pounds (pig s x40)) else false then within (Pig.anti (pig s x40)) 0 (Pig.pounds (pig s x40) - Pig.tin (pig s x40)) else false)=true)=>(An (Ak 1 (An (fun (y84:(bif bif bif okMTo s x40 then within (Pig.pounds (pig s x40)) 1 40 else false then within (Pig.tin (pig s x40)) 0 (Pig.pounds (pig s x40)) else false then within (Pig.anti (pig s x40)) 0 (Pig.pounds (pig s x40) - Pig.tin (pig s x40)) else false)=true)=>y83) (Ak 2 tv))) (An (An (zr (iv (Pig.pence (pig s x40)))) (An (zr (iv 0)) (An (zr (iv 99)) tv))) (An (t99 (Pig.pence (pig s x40)) (0) (99)) (Ak 2 (fun (i85:Env)=>tv)))))) (An (An (fun (y86:(bif bif bif okMTo s x40 then within (Pig.pounds (pig s x40)) 1 40 else false then within (Pig.tin (pig s x40)) 0 (Pig.pounds (pig s x40)) else false then within (Pig.anti (pig s x40)) 0 (Pig.pounds (pig s x40) - Pig.tin (pig s x40)) else false)=true)=>y86) (fun (y87:(bif bif bif okMTo s x40 then within (Pig.pounds (pig s x40)) 1 40 else false then within (Pig.tin (pig s x40)) 0 (Pig.pounds (pig s x40)) else false then within (Pig.anti (pig s x40)) 0 (Pig.pounds (pig s x40) - Pig.tin (pig s x40)) else false)=false)=>tv)) (Ak 1 (An (fun (y88:(bif bif bif bif okMTo s x40 then within (Pig.pounds (pig s x40)) 1 40 else false then within (Pig.tin (pig s x40)) 0 (Pig.pounds (pig s x40)) else false then within (Pig.anti (pig s x40)) 0 (Pig.pounds (pig s x40) - Pig.tin (pig s x40)) else false then within (Pig.pence (pig s x40)) 0 99 else false)=true)=>(An (Ak 1 tv) tv)) (An (fun (y89:(bif bif bif bif okMTo s x40 then within (Pig.pounds (pig s x40)) 1 40 else false then within (Pig.tin (pig s x40)) 0 (Pig.pounds (pig s x40)) else false then within (Pig.anti (pig s x40)) 0 (Pig.pounds (pig s x40) - Pig.tin (pig s x40)) else false then within (Pig.pence (pig s x40)) 0 99 else false)=true)=>(An (An (fun (y90:(bif bif bif bif okMTo s x40 then within (Pig.pounds (pig s x40)) 1 40 else false then within (Pig.tin (pig s x40)) 0 (Pig.pounds (pig s x40)) else false then within (Pig.anti (pig s x40)) 0 (Pig.pounds (pig s x40) - Pig.tin (pig s x40)) else false then within (Pig.pence (pig s x40)) 0 99 else false)=true)=>y89) tv) tv)) (An (fun (y91:(bif bif bif bif okMTo s x40 then within (Pig.pounds (pig s x40)) 1 40 else false then within (Pig.tin (pig s x40)) 0 (Pig.pounds (pig s x40)) else false then within (Pig.anti (pig s x40)) 0 (Pig.pounds (pig s x40) - Pig.tin (pig s x40)) else false then within (Pig.pence (pig s x40)) 0 99 else false)=true)=>(An (Ak 1 (An (fun (y92:(bif bif bif bif okMTo s x40 then within (Pig.pounds (pig s x40)) 1 40 else false then within (Pig.tin (pig s x40)) 0 (Pig.pounds (pig s x40)) else false then within (Pig.anti (pig s x40)) 0 (Pig.pounds (pig s x40) - Pig.tin (pig s x40)) else false then within (Pig.pence (pig s x40)) 0 99 else false)=true)=>y91) (Ak 2 tv))) (An (An (zr (iv (Pig.many (pig s x40)))) (An (zr (iv 0)) (An (zr (iv 5)) tv))) (An (t99 (Pig.many (pig s x40)) (0) (5)) (Ak 2 (fun (i93:Env)=>tv)))))) (An (An (fun (y94:(bif bif bif bif okMTo s x40 then within (Pig.pounds (pig s x40)) 1 40 else false then within (Pig.tin (pig s x40)) 0 (Pig.pounds (pig s x40)) else false then within (Pig.anti (pig s x40)) 0 (Pig.pounds (pig s x40) - Pig.tin (pig s x40)) else false then within (Pig.pence (pig s x40)) 0 99 else false)=true)=>y94) (fun (y95:(bif bif bif bif okMTo s x40 then within (Pig.pounds (pig s x40)) 1 40 else false then within (Pig.tin (pig s x40)) 0 (Pig.pounds (pig s x40)) else false then within (Pig.anti (pig s x40)) 0 (Pig.pounds (pig s x40) - Pig.tin (pig s x40)) else false then within (Pig.pence (pig s x40)) 0 99 else false)=false)=>tv)) (Ak 1 tv))))))))))))))))))))))))))))))))) ?_
  refine zR [34,35,3,36] [] (An (o6 hpre x40 hx40 y41) (Ak 1 tv)) ?_
  exact zn (zE hE [] [] [34,35] [] (An (An (An (zr (AV.sl 5 (Shop.pigs s).length fun (i:Nat)=>cPig (pig s i))) (zr true)) (An (An (zr (iv (↑((Shop.pigs s).length):Int))) (zr true)) (An (An (cb (o7 hpre x40 hx40 y41)) (zr nilN)) (An (An (ci (o8 hpre x40 hx40 y41)) (zr nilN)) tv)))) (Ak 1 (An (zr true) (zr true))))) (o9 hpre x40 hx40 y41) (o10 hpre x40 hx40 y41)
 ·refine swp_exit ?_
  refine swp_seq ?_
  refine swp_seq ?_
  refine zR [75] [] (Ak 2 tv) ?_
  refine zI (!okMTo s x40) (fun y96 => ?_) (fun y96 => ?_)
  ·refine swp_seq ?_
   refine zR [2] [] (Ak 1 tv) ?_
   refine swp_ret ?_
   exact zT [] (An (Ak 1 tv) (An (An (ci (o11 hpre x40 hx40 y41 y96)) (zr nilN)) (An (zr true) (An (zr true) (zr true)))))
  ·refine swp_skip ?_
   refine swp_seq ?_
   refine zR [2] [] (Ak 1 tv) ?_
   refine swp_ret ?_
   exact zT [] (An (Ak 1 tv) (An (An (ci (o12 hpre x40 hx40 y41 y96)) (zr nilN)) (An (zr true) (An (zr true) (zr true)))))
theorem t98 (s:Shop):Triple Try.prog 98 (s98 s):=by
 apply w98
 all_goals (try delta q5 q6)
 case o0=>intro _; simp only [Bool.cond_false_right]; unfold okMTo okHeadM; simp
 case o5 =>
  intro _ x _ _
  simp only [Bool.cond_false_right,Bool.and_eq_true,Go.Sh.within_iff,inI]
  omega
 case o6=>intro hf x hx _; unfold fitsM big at hf; constructor <;> omega
 case o7 =>
  intro _ x _ _
  simp only [Bool.cond_false_right]
  rw [okMTo_succ]
  unfold okPig
  simp only [Bool.and_assoc]
 case o11 =>
  intro _ x hx h h2
  simp only [decide_eq_false_iff_not] at h
  have:x=s.pigs.length:=by omega
  subst this
  unfold checkM okShop
  rw [if_neg]; intro h3; rw [h3] at h2; cases h2
 case o12 =>
  intro _ x hx h h2
  simp only [decide_eq_false_iff_not] at h
  have:x=s.pigs.length:=by omega
  subst this
  unfold checkM okShop
  rw [if_pos (by simpa using h2)]
 all_goals (try ((repeat intro _) <;> (try simp only [Bool.cond_true_left,Bool.cond_false_right,Bool.not_not,Bool.not_eq_true',Bool.not_eq_false',Bool.or_eq_true,Bool.or_eq_false_iff,Bool.and_eq_true,decide_eq_true_eq,decide_eq_false_iff_not,inI,big] at *) <;> first | (exact rfl) | omega | (exact ⟨Nat.zero_le _,fun j hj=>absurd hj (Nat.not_lt_zero j)⟩) | (simp_all; done) | (simp_all; omega)))
 all_goals (intros; simp_all [fitsM]; try omega)
theorem w20 (s:Shop)
  (o0:fitsM s->decide (40 < (↑((Shop.pigs s).length):Int))=hugeM s) :
  Triple Try.prog 20 (s20 s):=by
 refine triple_of Try.func20 rfl Try.call20 T0_ok _ rfl rfl rfl rfl (Nat.le_of_ble_eq_true (by kernel_rfl)) (fun _ _ _ _ h=>h) ?_
 intro hpre C hC _ hE
 obtain ⟨P,w0,E0,av,hA,ro,df⟩:=C
 obtain ⟨rfl,rfl,rfl⟩:=hC
 refine swp_seq ?_
 refine zR [1] [0] (Ak 2 tv) ?_
 refine swp_seq ?_
 refine zR [2] [] (Ak 5 tv) ?_
 refine swp_ret ?_
 exact zT [] (An (Ak 1 tv) (An (An (cb (o0 hpre)) (zr nilN)) (An (zr true) (An (zr true) (zr true)))))
theorem t20 (s:Shop):Triple Try.prog 20 (s20 s):=by
 apply w20
 intro _; rfl
abbrev q7 (s:Shop) (add:List Int) (Pq:Prop):Prop:=AddOK s add->Pq
abbrev q8 (add:List Int) (x0:Nat) (Pq:Prop):Prop:=x0<=add.length->Pq
abbrev q9 (add:List Int) (x0:Nat) (Pq:Prop):Prop:=q8 add x0 (decide ((x0:Int) < (↑(add.length):Int))=true->Pq)
theorem w55 (s:Shop) (add:List Int)
 (o0:q7 s add (0=sumMT s add Pig.pounds 0))
 (o1:q7 s add (0=(↑0:Int)))
 (o2:q7 s add (0<=List.length add))
 (o3:q7 s add (∀ (x0:Nat),q9 add x0 (0<=(x0:Int))))
 (o4:q7 s add (∀ (x0:Nat),q9 add x0 ((x0:Int) < (↑(add.length):Int))))
 (o5:q7 s add (∀ (x0:Nat),q9 add x0 (0<=(x0:Int))))
 (o6:q7 s add (∀ (x0:Nat),q9 add x0 ((x0:Int) < (↑((Shop.pigs s).length):Int))))
 (o7:q7 s add (∀ (x0:Nat),q9 add x0 (inI (add.getD x0 0 * Pig.pounds (pig s x0)))))
 (o8:q7 s add (∀ (x0:Nat),q9 add x0 (inI (sumMT s add Pig.pounds x0 + add.getD x0 0 * Pig.pounds (pig s x0)))))
 (o9:q7 s add (∀ (x0:Nat),q9 add x0 (inI ((x0:Int) + 1))))
 (o10:q7 s add (∀ (x0:Nat),q9 add x0 (sumMT s add Pig.pounds x0 + add.getD x0 0 * Pig.pounds (pig s x0)=sumMT s add Pig.pounds (x0 + 1))))
 (o11:q7 s add (∀ (x0:Nat),q9 add x0 ((x0:Int) + 1=(↑(x0 + 1):Int))))
 (o12:q7 s add (∀ (x0:Nat),q9 add x0 (x0 + 1<=add.length)))
 (o13:q7 s add (∀ (x0:Nat),q9 add x0 (add.length - (x0 + 1) < add.length - x0)))
 (o14:q7 s add (∀ (x0:Nat),q8 add x0 (decide ((x0:Int) < (↑(add.length):Int))=false->sumMT s add Pig.pounds x0=sumM s add Pig.pounds))) :
  Triple Try.prog 55 (s55 s add):=by
 refine triple_of Try.func55 rfl Try.call55 T0_ok _ rfl rfl rfl rfl (Nat.le_of_ble_eq_true (by kernel_rfl)) (fun _ _ _ _ h=>h) ?_
 intro hpre C hC _ hE
 obtain ⟨P,w0,E0,av,hA,ro,df⟩:=C
 obtain ⟨rfl,rfl,rfl⟩:=hC
 refine swp_seq ?_
 refine zR [1,2] [0] (Ak 2 tv) ?_
 refine swp_seq ?_
 refine zR [1,2,5] [0] (Ak 1 tv) ?_
 refine swp_seq ?_
 refine swp_seq ?_
 refine zR [1,2,5,6] [0] (Ak 1 tv) ?_
 refine swp_block ?_
 refine zL (Hint.ann (h55 s add) [(1,aInts add),(2,AV.ptr 0 [])] [(0,OB.cells 56 (cShop s))] 10032) (zE hE [] [(0,.same 0)] [1] [0] (An (An (An (zr (aInts add)) (zr true)) (An (An (zr (some (Src.same 0))) (zr nilP)) (An (An (ci (o0 hpre)) (zr nilN)) (An (An (ci (o1 hpre)) (zr nilN)) tv)))) (An (An (An (zr (OB.cells 56 (cShop s))) (zr true)) tv) (An (zr true) (zr true))))) (o2 hpre) (fun (x0:Nat) hx0 => ?_)
 refine swp_seq ?_
 refine swp_seq ?_
 refine zR [1,2,5,6,10] [0] (Ak 4 tv) ?_
 refine zI (decide ((x0:Int) < (↑(add.length):Int))) (fun y1 => ?_) (fun y1 => ?_)
 ·refine swp_skip ?_
  refine swp_seq ?_
  refine swp_block ?_
  refine zR [1,2,5,6] [0] (Ak 3 (An (An (o3 hpre x0 hx0 y1) (o4 hpre x0 hx0 y1)) (Ak 4 (An (An (o5 hpre x0 hx0 y1) (o6 hpre x0 hx0 y1)) (Ak 2 (An (o7 hpre x0 hx0 y1) (An (o8 hpre x0 hx0 y1) (Ak 1 tv)))))))) ?_
  refine zR [1,2,5,6] [0] (Ak 1 (An (o9 hpre x0 hx0 y1) (Ak 1 tv))) ?_
  exact zn (zE hE [] [(0,.same 0)] [1] [0] (An (An (An (zr (aInts add)) (zr true)) (An (An (zr (some (Src.same 0))) (zr nilP)) (An (An (ci (o10 hpre x0 hx0 y1)) (zr nilN)) (An (An (ci (o11 hpre x0 hx0 y1)) (zr nilN)) tv)))) (An (An (An (zr (OB.cells 56 (cShop s))) (zr true)) tv) (An (zr true) (zr true))))) (o12 hpre x0 hx0 y1) (o13 hpre x0 hx0 y1)
 ·refine swp_exit ?_
  refine swp_seq ?_
  refine zR [4] [] (Ak 2 tv) ?_
  refine swp_ret ?_
  exact zT [] (An (Ak 1 tv) (An (An (ci (o14 hpre x0 hx0 y1)) (zr nilN)) (An (zr true) (An (zr true) (zr true)))))
theorem t55 (s:Shop) (add:List Int):Triple Try.prog 55 (s55 s add):=by
  apply w55
  all_goals (try delta q7 q8 q9)
  case o6=>intro hp x hx h; simp only [decide_eq_true_eq] at h; have:=hp.2.1; omega
  case o7=>intro hp x hx h; simp only [decide_eq_true_eq] at h; have:=mprod_in hp (pig_pounds hp.1) (x:=x) (by omega); constructor <;> omega
  case o8=>intro hp x hx h; simp only [decide_eq_true_eq] at h; have:=mprod_in hp (pig_pounds hp.1) (x:=x) (by omega); have:=sumM_in hp (pig_pounds hp.1) hx; constructor <;> omega
  case o9=>intro hp x hx h; have:=hp.2.1; have:=hp.1.len; constructor <;> omega
  case o10=>intro hp x hx h; rfl
  case o14 => intro hp x hx h; simp only [decide_eq_false_iff_not] at h; have : x = add.length := by omega
              subst this; rfl
  all_goals (try ((repeat intro _) <;> (try simp only [Bool.cond_true_left,Bool.cond_false_right,Bool.not_not,Bool.not_eq_true',Bool.not_eq_false',Bool.or_eq_true,Bool.or_eq_false_iff,Bool.and_eq_true,decide_eq_true_eq,decide_eq_false_iff_not,inI,big] at *) <;> first | (exact rfl) | omega | (exact ⟨Nat.zero_le _,fun j hj=>absurd hj (Nat.not_lt_zero j)⟩) | (simp_all; done) | (simp_all; omega)))
abbrev qa (s:Shop) (add:List Int) (Pq:Prop):Prop:=SoundM s/\add.length<=big->Pq
abbrev qb (s:Shop) (add:List Int) (Pq:Prop):Prop:=qa s add ((!decide ((↑(add.length):Int)=(↑((Shop.pigs s).length):Int)))=false->Pq)
abbrev qc (s:Shop) (add:List Int) (x1:Nat) (Pq:Prop):Prop:=(x1<=add.length /\ ∀ (j:Nat),j < x1->addAt s add j=true)->Pq
abbrev qd (s:Shop) (add:List Int) (x1:Nat) (Pq:Prop):Prop:=qc s add x1 (decide ((x1:Int) < (↑(add.length):Int))=true->Pq)
abbrev qe (s:Shop) (add:List Int) (x1:Nat) (Pq:Prop):Prop:=qd s add x1 ((!within (add.getD x1 0) 0 (Pig.many (pig s x1)))=false->Pq)
theorem w22 (s:Shop) (add:List Int)
 (o0:qa s add ((!decide ((↑(add.length):Int)=(↑((Shop.pigs s).length):Int)))=true->false=isAddM s add))
 (o1:qb s add (0=(↑0:Int)))
 (o2:qb s add (0<=add.length /\ ∀ (j:Nat),j < 0->addAt s add j=true))
 (o3:qb s add (∀ (x1:Nat),qd s add x1 (0<=(x1:Int))))
 (o4:qb s add (∀ (x1:Nat),qd s add x1 ((x1:Int) < (↑(add.length):Int))))
 (o5:qb s add (∀ (x1:Nat),qd s add x1 (0<=(x1:Int))))
 (o6:qb s add (∀ (x1:Nat),qd s add x1 ((x1:Int) < (↑((Shop.pigs s).length):Int))))
 (o7:qb s add (∀ (x1:Nat),qd s add x1 ((!within (add.getD x1 0) 0 (Pig.many (pig s x1)))=true->false=isAddM s add)))
 (o8:qb s add (∀ (x1:Nat),qe s add x1 (inI ((x1:Int) + 1))))
 (o9:qb s add (∀ (x1:Nat),qe s add x1 ((x1:Int) + 1=(↑(x1 + 1):Int))))
 (o10:qb s add (∀ (x1:Nat),qe s add x1 (x1 + 1<=add.length /\ ∀ (j:Nat),j < x1 + 1->addAt s add j=true)))
 (o11:qb s add (∀ (x1:Nat),qe s add x1 (add.length - (x1 + 1) < add.length - x1)))
 (o12:qb s add (∀ (x1:Nat),qc s add x1 (decide ((x1:Int) < (↑(add.length):Int))=false->AddOK s add)))
 (o13:qb s add (∀ (x1:Nat),qc s add x1 (decide ((x1:Int) < (↑(add.length):Int))=false->inI (Pot.pounds (Shop.pot s) + sumM s add Pig.pounds))))
 (o14:qb s add (∀ (x1:Nat),qc s add x1 (decide ((x1:Int) < (↑(add.length):Int))=false->decide (Pot.pounds (Shop.pot s) + sumM s add Pig.pounds<=Shop.room s)=isAddM s add))) :
  Triple Try.prog 22 (s22 s add):=by
 refine triple_of Try.func22 rfl Try.call22 T0_ok _ rfl rfl rfl rfl (Nat.le_of_ble_eq_true (by kernel_rfl)) (fun _ _ _ _ h=>h) ?_
 intro hpre C hC _ hE
 obtain ⟨P,w0,E0,av,hA,ro,df⟩:=C
 obtain ⟨rfl,rfl,rfl⟩:=hC
 refine swp_seq ?_
 refine zR [1,2] [0] (Ak 2 tv) ?_
 refine swp_seq ?_
 refine swp_seq ?_
 refine zR [1,2,11] [0] (Ak 6 tv) ?_
 refine zI (!decide ((↑(add.length):Int)=(↑((Shop.pigs s).length):Int))) (fun y0 => ?_) (fun y0 => ?_)
 ·refine swp_seq ?_
  refine zR [4] [] (Ak 1 tv) ?_
  refine swp_ret ?_
  exact zT [] (An (Ak 1 tv) (An (An (cb (o0 hpre y0)) (zr nilN)) (An (zr true) (An (zr true) (zr true)))))
 ·refine swp_skip ?_
  refine swp_seq ?_
  refine swp_seq ?_
  refine zR [1,2,5] [0] (Ak 1 tv) ?_
  refine swp_block ?_
  refine zL (Hint.ann (h22 s add) [(1,aInts add),(2,AV.ptr 0 [])] [(0,OB.cells 56 (cShop s))] 10072) (zE hE [] [(0,.same 0)] [1] [0] (An (An (An (zr (aInts add)) (zr true)) (An (An (zr (some (Src.same 0))) (zr nilP)) (An (An (ci (o1 hpre y0)) (zr nilN)) tv))) (An (An (An (zr (OB.cells 56 (cShop s))) (zr true)) tv) (An (zr true) (zr true))))) (o2 hpre y0) (fun (x1:Nat) hx1 => ?_)
  refine swp_seq ?_
  refine swp_seq ?_
  refine zR [1,2,5,15] [0] (Ak 4 tv) ?_
  refine zI (decide ((x1:Int) < (↑(add.length):Int))) (fun y2 => ?_) (fun y2 => ?_)
  ·refine swp_skip ?_
   refine swp_seq ?_
   refine swp_block ?_
   refine swp_seq ?_
   refine zC ([(10,CallSpec.eq (s46 (add.getD x1 0) 0 (Pig.many (pig s x1))) [true,true,true])]) [1,2,5,29] [0] (Ak 2 (An (An (o3 hpre y0 x1 hx1 y2) (o4 hpre y0 x1 hx1 y2)) (Ak 4 (An (An (o5 hpre y0 x1 hx1 y2) (o6 hpre y0 x1 hx1 y2)) (Ak 2 (An (An (An (zr (iv (add.getD x1 0))) (An (zr (iv 0)) (An (zr (iv (Pig.many (pig s x1)))) tv))) (An (t46 (add.getD x1 0) (0) (Pig.many (pig s x1))) (Ak 2 (fun (i3:Env)=>tv)))) (Ak 1 tv))))))) ?_
   refine zI (!within (add.getD x1 0) 0 (Pig.many (pig s x1))) (fun y4 => ?_) (fun y4 => ?_)
   ·refine swp_seq ?_
    refine zR [4] [] (Ak 1 tv) ?_
    refine swp_ret ?_
    exact zT [] (An (Ak 1 tv) (An (An (cb (o7 hpre y0 x1 hx1 y2 y4)) (zr nilN)) (An (zr true) (An (zr true) (zr true)))))
   ·refine swp_skip ?_
    refine zR [1,2,5] [0] (Ak 1 (An (o8 hpre y0 x1 hx1 y2 y4) (Ak 1 tv))) ?_
    exact zn (zE hE [] [(0,.same 0)] [1] [0] (An (An (An (zr (aInts add)) (zr true)) (An (An (zr (some (Src.same 0))) (zr nilP)) (An (An (ci (o9 hpre y0 x1 hx1 y2 y4)) (zr nilN)) tv))) (An (An (An (zr (OB.cells 56 (cShop s))) (zr true)) tv) (An (zr true) (zr true))))) (o10 hpre y0 x1 hx1 y2 y4) (o11 hpre y0 x1 hx1 y2 y4)
  ·refine swp_exit ?_
   refine swp_seq ?_
   refine zC ([(5,CallSpec.eq (s55 s add) [true,true])]) [4] [] (Ak 5 (An (An (An (zr (AV.agg (cShop s))) (An (zr (aInts add)) tv)) (An (t55 (s) (add)) (An (o12 hpre y0 x1 hx1 y2) (Ak 1 (fun (i5:Env)=>tv))))) (An (o13 hpre y0 x1 hx1 y2) (Ak 4 tv)))) ?_
   refine swp_ret ?_
   exact zT [] (An (Ak 1 tv) (An (An (cb (o14 hpre y0 x1 hx1 y2)) (zr nilN)) (An (zr true) (An (zr true) (zr true)))))
theorem t22 (s:Shop) (add:List Int):Triple Try.prog 22 (s22 s add):=by
 apply w22
 all_goals (try delta qa qb qc qd qe)
 case o0=>intro hp h; symm; apply isAdd_no; intro h2; simp only [Bool.not_eq_true',decide_eq_false_iff_not] at h; omega
 all_goals (rintro ⟨hp,hb⟩ h; simp only [Bool.not_eq_false',decide_eq_true_eq] at h; replace h:add.length=s.pigs.length:=by omega)
 case o7 =>
  intro x hx hl h2
  simp only [decide_eq_true_eq] at hl
  symm; apply isAdd_no; intro h3
  have:=h3.2.1 x (by omega)
  unfold addAt at this
  rw [this] at h2; cases h2
 case o10 =>
  intro x hx hl h2
  simp only [decide_eq_true_eq] at hl
  exact ⟨by omega,lt_succ_cases hx.2 (by unfold addAt; simpa using h2)⟩
 case o12=>intro x hx hl; simp only [decide_eq_false_iff_not] at hl; exact add_ok hp h fun i hi=>hx.2 i (by omega)
 case o13 =>
  intro x hx hl; simp only [decide_eq_false_iff_not] at hl
  have ha:AddOK s add:=add_ok hp h fun i hi=>hx.2 i (by omega)
  have:=sumM_in ha (pig_pounds hp) (Nat.le_refl _)
  have:=hp.pounds
  show inI (s.pot.pounds + sumMT s add Pig.pounds add.length)
  constructor <;> omega
 case o14 =>
  intro x hx hl; simp only [decide_eq_false_iff_not] at hl
  rw [Bool.eq_iff_iff,isAdd_iff,decide_eq_true_eq]
  exact ⟨fun h2=>⟨h,fun i hi=>hx.2 i (by omega),h2⟩,fun h2=>h2.2.2⟩
 all_goals (try ((repeat intro _) <;> (try simp only [Bool.cond_true_left,Bool.cond_false_right,Bool.not_not,Bool.not_eq_true',Bool.not_eq_false',Bool.or_eq_true,Bool.or_eq_false_iff,Bool.and_eq_true,decide_eq_true_eq,decide_eq_false_iff_not,inI,big] at *) <;> first | (exact rfl) | omega | (exact ⟨Nat.zero_le _,fun j hj=>absurd hj (Nat.not_lt_zero j)⟩) | (simp_all; done) | (simp_all; omega)))
theorem wo29 (s:Shop)
  (o0:smallM s->0 + List.length (Shop.pigs s)<=65536)
  (o1:smallM s->0 + (Shop.pigs s).length=(Shop.pigs s).length)
  (l:List (Nat × Nat)) (hl:l.map (·.1)=(OutSpec.hout (ou29 s)).map (·.1)) (hnd:(l.map (·.2)).Nodup) :
  Triple Try.prog 29 (OutSpec.at (ou29 s) l):=by
 refine triple_out Try.func29 rfl Try.call29 T0_ok _ _ _ _ l rfl (Nat.le_of_ble_eq_true (by kernel_rfl)) hl hnd (by kernel_rfl) (by kernel_rfl) (by kernel_rfl) ?_
 intro hpre C hC hE
 obtain ⟨P,w0,E0,av,hA,ro,df⟩:=C
 obtain ⟨rfl,rfl,rfl⟩:=hC
 refine swp_seq ?_
 refine zR [1,2] [0,8] (Ak 2 tv) ?_
 refine swp_seq ?_
 refine zR [1,2,3] [0,8,24] (Ak 3 tv) ?_
 refine swp_seq ?_
 refine zR [2,3] [8,24,64] (Ak 3 (An (o0 hpre) (Ak 2 tv))) ?_
 refine swp_seq ?_
 refine zR [2] [8,64] (Ak 2 tv) ?_
 refine swp_ret ?_
 exact zO (ASt.mk [(2,AV.ptr 90 [])] [(90,OB.cells 56 [iv (Pot.pounds (Shop.pot s)),iv (Pot.tin (Shop.pot s)).lo,iv (Pot.tin (Shop.pot s)).hi,iv (Pot.anti (Shop.pot s)).lo,iv (Pot.anti (Shop.pot s)).hi,iv (Shop.room s),iv (Shop.tinP s).lo,iv (Shop.tinP s).hi,iv (Shop.antiP s).lo,iv (Shop.antiP s).hi,AV.vec 0]),(0,OB.vec 74 5 (Shop.pigs s).length fun (i:Nat)=>cPig (pig s i))] 100) (zE hE [] [(90,.same 8),(0,.same 64)] [] [] (An (An (An (zr (some (Src.same 8))) (zr nilP)) tv) (An (An (An (zr 56) (An (An (An (zr (iv (Pot.pounds (Shop.pot s)))) (zr nilN)) (An (An (zr (iv (Pot.tin (Shop.pot s)).lo)) (zr nilN)) (An (An (zr (iv (Pot.tin (Shop.pot s)).hi)) (zr nilN)) (An (An (zr (iv (Pot.anti (Shop.pot s)).lo)) (zr nilN)) (An (An (zr (iv (Pot.anti (Shop.pot s)).hi)) (zr nilN)) (An (An (zr (iv (Shop.room s))) (zr nilN)) (An (An (zr (iv (Shop.tinP s).lo)) (zr nilN)) (An (An (zr (iv (Shop.tinP s).hi)) (zr nilN)) (An (An (zr (iv (Shop.antiP s).lo)) (zr nilN)) (An (An (zr (iv (Shop.antiP s).hi)) (zr nilN)) (An (zr (some (Src.same 64))) tv))))))))))) (zr true))) (An (An (zr 74) (An (zr 5) (An (o1 hpre) (fun (i0:Nat)=>(fun (y1:i0 < 0 + (Shop.pigs s).length)=>(zr (cPig (pig s i0)))))))) tv)) (An (zr true) (zr true))))) (An (Ak 1 tv) (An (zr (AV.agg [iv (Pot.pounds (Shop.pot s)),iv (Pot.tin (Shop.pot s)).lo,iv (Pot.tin (Shop.pot s)).hi,iv (Pot.anti (Shop.pot s)).lo,iv (Pot.anti (Shop.pot s)).hi,iv (Shop.room s),iv (Shop.tinP s).lo,iv (Shop.tinP s).hi,iv (Shop.antiP s).lo,iv (Shop.antiP s).hi,AV.vec 0])) (An (zr (some (OB.vec 74 5 (Shop.pigs s).length fun (i:Nat)=>cPig (pig s i)))) tv)))
theorem t29o (s:Shop) (id:Nat):Triple Try.prog 29 (s29o s id):=by
 refine wo29 s ?_ ?_ (l:=[(0,id)]) (hl:=rfl) (hnd:=by simp)
 ·intro h; unfold smallM at h; omega
 ·intro _; omega
theorem w101 (p:Pig) :
  Triple Try.prog 101 (s101 p):=by
 refine triple_of Try.func101 rfl Try.call101 T0_ok _ rfl rfl rfl rfl (Nat.le_of_ble_eq_true (by kernel_rfl)) (fun _ _ _ _ h=>h) ?_
 intro _ C hC _ hE
 obtain ⟨P,w0,E0,av,hA,ro,df⟩:=C
 obtain ⟨rfl,rfl,rfl⟩:=hC
 refine swp_seq ?_
 refine zR [1] [0] (Ak 2 tv) ?_
 refine swp_seq ?_
 refine zR [2] [] (Ak 3 tv) ?_
 refine swp_ret ?_
 exact zT [] (An (Ak 1 tv) (An (An (zr (iv (Pig.pounds p))) (zr nilN)) (An (zr true) (An (zr true) (zr true)))))
theorem t101 (p:Pig):Triple Try.prog 101 (s101 p):=w101 p
theorem w103 (p:Pig) :
  Triple Try.prog 103 (s103 p):=by
 refine triple_of Try.func103 rfl Try.call103 T0_ok _ rfl rfl rfl rfl (Nat.le_of_ble_eq_true (by kernel_rfl)) (fun _ _ _ _ h=>h) ?_
 intro _ C hC _ hE
 obtain ⟨P,w0,E0,av,hA,ro,df⟩:=C
 obtain ⟨rfl,rfl,rfl⟩:=hC
 refine swp_seq ?_
 refine zR [1] [0] (Ak 2 tv) ?_
 refine swp_seq ?_
 refine zR [2] [] (Ak 3 tv) ?_
 refine swp_ret ?_
 exact zT [] (An (Ak 1 tv) (An (An (zr (iv (Pig.tin p))) (zr nilN)) (An (zr true) (An (zr true) (zr true)))))
theorem t103 (p:Pig):Triple Try.prog 103 (s103 p):=w103 p
theorem w104 (p:Pig) :
  Triple Try.prog 104 (s104 p):=by
 refine triple_of Try.func104 rfl Try.call104 T0_ok _ rfl rfl rfl rfl (Nat.le_of_ble_eq_true (by kernel_rfl)) (fun _ _ _ _ h=>h) ?_
 intro _ C hC _ hE
 obtain ⟨P,w0,E0,av,hA,ro,df⟩:=C
 obtain ⟨rfl,rfl,rfl⟩:=hC
 refine swp_seq ?_
 refine zR [1] [0] (Ak 2 tv) ?_
 refine swp_seq ?_
 refine zR [2] [] (Ak 3 tv) ?_
 refine swp_ret ?_
 exact zT [] (An (Ak 1 tv) (An (An (zr (iv (Pig.anti p))) (zr nilN)) (An (zr true) (An (zr true) (zr true)))))
theorem t104 (p:Pig):Triple Try.prog 104 (s104 p):=w104 p
theorem w123 (p:Pig) :
  Triple Try.prog 123 (s123 p):=by
 refine triple_of Try.func123 rfl Try.call123 T0_ok _ rfl rfl rfl rfl (Nat.le_of_ble_eq_true (by kernel_rfl)) (fun _ _ _ _ h=>h) ?_
 intro _ C hC _ hE
 obtain ⟨P,w0,E0,av,hA,ro,df⟩:=C
 obtain ⟨rfl,rfl,rfl⟩:=hC
 refine swp_seq ?_
 refine zR [1] [0] (Ak 2 tv) ?_
 refine swp_seq ?_
 refine zR [2] [] (Ak 3 tv) ?_
 refine swp_ret ?_
 exact zT [] (An (Ak 1 tv) (An (An (zr (iv (Pig.pence p))) (zr nilN)) (An (zr true) (An (zr true) (zr true)))))
theorem t123 (p:Pig):Triple Try.prog 123 (s123 p):=w123 p
abbrev qf (s:Shop) (add:List Int) (g:Pig->Int) (E0:Env) (Pq:Prop):Prop:=fnokOf Try.prog 0 (fun (p:Pig)=>[vPig p]) (fun (p:Pig)=>iv (g p)) E0->(AddOK s add /\ ∀ (i:Nat),i < (Shop.pigs s).length->0<=g (pig s i)/\g (pig s i)<=99)->Pq
abbrev qg (add:List Int) (x0:Nat) (Pq:Prop):Prop:=x0<=add.length->Pq
abbrev qh (add:List Int) (x0:Nat) (Pq:Prop):Prop:=qg add x0 (decide ((x0:Int) < (↑(add.length):Int))=true->Pq)
theorem w100 (s:Shop) (add:List Int) (g:Pig->Int)
 (o0:∀ (E0:Env),qf s add g E0 (0=sumMT s add g 0))
 (o1:∀ (E0:Env),qf s add g E0 (0=(↑0:Int)))
 (o2:∀ (E0:Env),qf s add g E0 (0<=add.length))
 (o3:∀ (E0:Env),qf s add g E0 (∀ (x0:Nat),qh add x0 (0<=(x0:Int))))
 (o4:∀ (E0:Env),qf s add g E0 (∀ (x0:Nat),qh add x0 ((x0:Int) < (↑(add.length):Int))))
 (o5:∀ (E0:Env),qf s add g E0 (∀ (x0:Nat),qh add x0 (0<=(x0:Int))))
 (o6:∀ (E0:Env),qf s add g E0 (∀ (x0:Nat),qh add x0 ((x0:Int) < (↑((Shop.pigs s).length):Int))))
 (o7:∀ (E0:Env),qf s add g E0 (∀ (x0:Nat),qh add x0 (∀ (i2:Value),E0.4 0 i2->FnOK Try.prog E0 i2 [vPig (pig s x0)] (iv (g (pig s x0))))))
 (o8:∀ (E0:Env),qf s add g E0 (∀ (x0:Nat),qh add x0 (inI (add.getD x0 0 * g (pig s x0)))))
 (o9:∀ (E0:Env),qf s add g E0 (∀ (x0:Nat),qh add x0 (inI (sumMT s add g x0 + add.getD x0 0 * g (pig s x0)))))
 (o10:∀ (E0:Env),qf s add g E0 (∀ (x0:Nat),qh add x0 (inI ((x0:Int) + 1))))
 (o11:∀ (E0:Env),qf s add g E0 (∀ (x0:Nat),qh add x0 (sumMT s add g x0 + add.getD x0 0 * g (pig s x0)=sumMT s add g (x0 + 1))))
 (o12:∀ (E0:Env),qf s add g E0 (∀ (x0:Nat),qh add x0 ((x0:Int) + 1=(↑(x0 + 1):Int))))
 (o13:∀ (E0:Env),qf s add g E0 (∀ (x0:Nat),qh add x0 (x0 + 1<=add.length)))
 (o14:∀ (E0:Env),qf s add g E0 (∀ (x0:Nat),qh add x0 (add.length - (x0 + 1) < add.length - x0)))
 (o15:∀ (E0:Env),qf s add g E0 (∀ (x0:Nat),qg add x0 (decide ((x0:Int) < (↑(add.length):Int))=false->sumMT s add g x0=sumM s add g))) :
  Triple Try.prog 100 (s100 s add g):=by
 refine triple_of Try.func100 rfl Try.call100 T0_ok _ rfl rfl rfl rfl (Nat.le_of_ble_eq_true (by kernel_rfl)) fnokOf_congr ?_
 intro hpre C hC hfn hE
 obtain ⟨P,w0,E0,av,hA,ro,df⟩:=C
 obtain ⟨rfl,rfl,rfl⟩:=hC
 refine swp_seq ?_
 refine zR [1,2,3] [0] (Ak 2 tv) ?_
 refine swp_seq ?_
 refine zR [1,2,3,7] [0] (Ak 1 tv) ?_
 refine swp_seq ?_
 refine swp_seq ?_
 refine zR [2,3,7,10,11,12] [0] (Ak 3 tv) ?_
 refine swp_block ?_
 refine zL (Hint.ann (h100 s add g) [(2,AV.fn 0),(3,AV.ptr 0 []),(10,aInts add),(11,iv (↑(add.length):Int))] [(0,OB.cells 121 (cShop s))] 10048) (zE hE [] [(0,.same 0)] [2,10,11] [0] (An (An (An (zr (AV.fn 0)) (zr true)) (An (An (zr (some (Src.same 0))) (zr nilP)) (An (An (zr (aInts add)) (zr true)) (An (An (zr (iv (↑(add.length):Int))) (zr true)) (An (An (ci (o0 E0 hfn hpre)) (zr nilN)) (An (An (ci (o1 E0 hfn hpre)) (zr nilN)) tv)))))) (An (An (An (zr (OB.cells 121 (cShop s))) (zr true)) tv) (An (zr true) (zr true))))) (o2 E0 hfn hpre) (fun (x0:Nat) hx0 => ?_)
 refine swp_seq ?_
 refine zR [2,3,10,11,7,12,13] [0] (Ak 1 tv) ?_
 refine swp_seq ?_
 refine zI (decide ((x0:Int) < (↑(add.length):Int))) (fun y1 => ?_) (fun y1 => ?_)
 ·refine swp_skip ?_
  refine swp_seq ?_
  refine swp_block ?_
  refine swp_seq ?_
  refine zR [2,3,10,11,7,12,8,9] [0] (Ak 1 (An (An (o3 E0 hfn hpre x0 hx0 y1) (o4 E0 hfn hpre x0 hx0 y1)) (Ak 3 tv))) ?_
  refine zC ([(9,CallSpec.eq (c100 s add g x0) [true])]) [2,3,10,11,7,12] [0] (Ak 7 (An (An (o5 E0 hfn hpre x0 hx0 y1) (o6 E0 hfn hpre x0 hx0 y1)) (Ak 1 (An (An (An (An (zr (iv (Pig.pounds (pig s x0)))) (An (zr (iv (Pig.tin (pig s x0)))) (An (zr (iv (Pig.anti (pig s x0)))) (An (zr (iv (Pig.pence (pig s x0)))) (An (zr (iv (Pig.many (pig s x0)))) tv))))) tv) (fun (i2:Value)=>(fun (y3:E0.4 0 i2)=>(o7 E0 hfn hpre x0 hx0 y1 i2 y3)))) (An (o8 E0 hfn hpre x0 hx0 y1) (An (o9 E0 hfn hpre x0 hx0 y1) (Ak 1 tv))))))) ?_
  refine zR [2,3,10,11,7,12] [0] (An (o10 E0 hfn hpre x0 hx0 y1) (Ak 1 tv)) ?_
  exact zn (zE hE [] [(0,.same 0)] [2,10,11] [0] (An (An (An (zr (AV.fn 0)) (zr true)) (An (An (zr (some (Src.same 0))) (zr nilP)) (An (An (zr (aInts add)) (zr true)) (An (An (zr (iv (↑(add.length):Int))) (zr true)) (An (An (ci (o11 E0 hfn hpre x0 hx0 y1)) (zr nilN)) (An (An (ci (o12 E0 hfn hpre x0 hx0 y1)) (zr nilN)) tv)))))) (An (An (An (zr (OB.cells 121 (cShop s))) (zr true)) tv) (An (zr true) (zr true))))) (o13 E0 hfn hpre x0 hx0 y1) (o14 E0 hfn hpre x0 hx0 y1)
 ·refine swp_exit ?_
  refine swp_seq ?_
  refine zR [6] [] (Ak 2 tv) ?_
  refine swp_ret ?_
  exact zT [] (An (Ak 1 tv) (An (An (ci (o15 E0 hfn hpre x0 hx0 y1)) (zr nilN)) (An (zr true) (An (zr true) (zr true)))))
theorem t100 (s:Shop) (add:List Int) (g:Pig->Int):Triple Try.prog 100 (s100 s add g):=by
  apply w100
  all_goals (try delta qf qg qh)
  all_goals (intro E0 hf hpp; obtain ⟨hp,hg⟩:=hpp)
  case o6=>intro x hx h; simp only [decide_eq_true_eq] at h; have:=hp.2.1; omega
  case o7=>intro x hx h u hu; exact hf u hu _
  case o8=>intro x hx h; simp only [decide_eq_true_eq] at h; have:=mprod_in hp hg (x:=x) (by omega); constructor <;> omega
  case o9=>intro x hx h; simp only [decide_eq_true_eq] at h; have:=mprod_in hp hg (x:=x) (by omega); have:=sumM_in hp hg hx; constructor <;> omega
  case o10=>intro x hx h; have:=hp.2.1; have:=hp.1.len; constructor <;> omega
  case o11=>intro x hx h; rfl
  case o15 => intro x hx h; simp only [decide_eq_false_iff_not] at h; have : x = add.length := by omega
              subst this; rfl
  all_goals (try ((repeat intro _) <;> (try simp only [Bool.cond_true_left,Bool.cond_false_right,Bool.not_not,Bool.not_eq_true',Bool.not_eq_false',Bool.or_eq_true,Bool.or_eq_false_iff,Bool.and_eq_true,decide_eq_true_eq,decide_eq_false_iff_not,inI,big] at *) <;> first | (exact rfl) | omega | (exact ⟨Nat.zero_le _,fun j hj=>absurd hj (Nat.not_lt_zero j)⟩) | (simp_all; done) | (simp_all; omega)))
theorem fn_pig {f:FuncId} {g:Pig->Int} (sp:Pig->CallSpec) (ht:∀ p,Triple Try.prog f (sp p)) (h1:∀ p,(sp p).args = [vPig p] ++ []) (h2:∀ p,(sp p).pre) (h3:∀ p E,(sp p).fnok E) (h4:∀ p,(sp p).hin = []) (h5:∀ p,(sp p).hout = []) (h6:∀ p,(sp p).res=iv (g p))
  {E0:Env} {a b:AV} (ha:∀ k,a ≠ .fn k) (hb:∀ k,b ≠ .fn k) (E:Env) (us:List Value) (le:E0.le E) (hl:us.length = [a,b,AV.fn 0].length) (hr:∀ k,Rel E true (([a,b,.clo f []]:List AV).getD k .any) (us.getD k undef)):fnokOf Try.prog 0 (fun p:Pig=>[vPig p]) (fun p=>iv (g p)) (E.setFns (fnsOf [a,b,.fn 0] us)):=by
 refine fnok_arg (vals:=[a,b,.clo f []]) 2 (fun j' h => ?_) (fun E u hu p=>fnok_clo (caps:=[]) (sp p) (ht p) (h1 p) (h2 p) (h3 p) (h4 p) (h5 p) (h6 p) rfl rfl hu) E us le hl hr
 match j',h with
 | 0,h=>simp only [List.getElem?_cons_zero,Option.some.injEq] at h; exact absurd h (ha _)
 | 1,h=>simp only [List.getElem?_cons_succ,List.getElem?_cons_zero,Option.some.injEq] at h; exact absurd h (hb _)
 | 2,_=>rfl
 | n + 3,h=>simp at h
theorem ne_sh (s:Shop) (k:Nat):AV.agg (cShop s) ≠ .fn k:=by intro h; cases h
theorem ne_in (l:List Int) (k:Nat):aInts l ≠ .fn k:=by intro h; cases h
abbrev qi (s:Shop) (add:List Int) (Pq:Prop):Prop:=SoundM s/\add.length<=big->Pq
abbrev qj (s:Shop) (add:List Int) (Pq:Prop):Prop:=qi s add ((!decide ((↑(add.length):Int)=(↑((Shop.pigs s).length):Int)))=false->Pq)
abbrev qk (s:Shop) (add:List Int) (x1:Nat) (Pq:Prop):Prop:=(x1<=add.length /\ ∀ (j:Nat),j < x1->addAt s add j=true)->Pq
abbrev ql (s:Shop) (add:List Int) (x1:Nat) (Pq:Prop):Prop:=qk s add x1 (decide ((x1:Int) < (↑(add.length):Int))=true->Pq)
abbrev qm (s:Shop) (add:List Int) (x1:Nat) (Pq:Prop):Prop:=ql s add x1 ((!within (add.getD x1 0) 0 (Pig.many (pig s x1)))=false->Pq)
abbrev qn (s:Shop) (add:List Int) (x1:Nat) (Pq:Prop):Prop:=qk s add x1 (decide ((x1:Int) < (↑(add.length):Int))=false->Pq)
theorem w68 (s:Shop) (add:List Int)
 (o0:qi s add ((!decide ((↑(add.length):Int)=(↑((Shop.pigs s).length):Int)))=true->false=isAddM s add))
 (o1:qj s add (0=(↑0:Int)))
 (o2:qj s add (0<=add.length /\ ∀ (j:Nat),j < 0->addAt s add j=true))
 (o3:qj s add (∀ (x1:Nat),ql s add x1 (0<=(x1:Int))))
 (o4:qj s add (∀ (x1:Nat),ql s add x1 ((x1:Int) < (↑(add.length):Int))))
 (o5:qj s add (∀ (x1:Nat),ql s add x1 (0<=(x1:Int))))
 (o6:qj s add (∀ (x1:Nat),ql s add x1 ((x1:Int) < (↑((Shop.pigs s).length):Int))))
 (o7:qj s add (∀ (x1:Nat),ql s add x1 ((!within (add.getD x1 0) 0 (Pig.many (pig s x1)))=true->false=isAddM s add)))
 (o8:qj s add (∀ (x1:Nat),qm s add x1 (inI ((x1:Int) + 1))))
 (o9:qj s add (∀ (x1:Nat),qm s add x1 ((x1:Int) + 1=(↑(x1 + 1):Int))))
 (o10:qj s add (∀ (x1:Nat),qm s add x1 (x1 + 1<=add.length /\ ∀ (j:Nat),j < x1 + 1->addAt s add j=true)))
 (o11:qj s add (∀ (x1:Nat),qm s add x1 (add.length - (x1 + 1) < add.length - x1)))
 (o12:qj s add (∀ (x1:Nat),qn s add x1 (AddOK s add)))
 (o13:qj s add (∀ (x1:Nat),qn s add x1 (∀ (i5:Nat),i5 < (Shop.pigs s).length->0<=Pig.pounds (pig s i5))))
 (o14:qj s add (∀ (x1:Nat),qn s add x1 (∀ (i5:Nat),i5 < (Shop.pigs s).length->Pig.pounds (pig s i5)<=99)))
 (o15:∀ (E0:Env),SoundM s/\add.length<=big->(!decide ((↑(add.length):Int)=(↑((Shop.pigs s).length):Int)))=false -> ∀ (x1:Nat),(x1<=add.length /\ ∀ (j:Nat),j < x1->addAt s add j=true)->decide ((x1:Int) < (↑(add.length):Int))=false -> ∀ (i7:Env) (i8:List Value),Env.le E0 i7->i8.length=3->(∀ (k:Nat),Rel i7 true (List.getD [AV.agg (cShop s),aInts add,AV.clo 101 []] k AV.any) (i8.getD k undef))->fnokOf Try.prog 0 (fun (p:Pig)=>[vPig p]) (fun (p:Pig)=>iv (Pig.pounds p)) (Env.mk i7.1 i7.2 i7.3 fun (k:Nat) (u:Value) => ∃ (i:Nat),[AV.agg (cShop s),aInts add,AV.fn 0][i]? = some (AV.fn k)/\i8[i]? = some u))
 (o16:qj s add (∀ (x1:Nat),qn s add x1 (inI (Pot.pounds (Shop.pot s) + sumM s add Pig.pounds))))
 (o17:qj s add (∀ (x1:Nat),qn s add x1 (decide (Pot.pounds (Shop.pot s) + sumM s add Pig.pounds<=Shop.room s)=isAddM s add))) :
  Triple Try.prog 68 (s68 s add):=by
 refine triple_of Try.func68 rfl Try.call68 T0_ok _ rfl rfl rfl rfl (Nat.le_of_ble_eq_true (by kernel_rfl)) (fun _ _ _ _ h=>h) ?_
 intro hpre C hC _ hE
 obtain ⟨P,w0,E0,av,hA,ro,df⟩:=C
 obtain ⟨rfl,rfl,rfl⟩:=hC
 refine swp_seq ?_
 refine zR [1,2] [0] (Ak 2 tv) ?_
 refine swp_seq ?_
 refine swp_seq ?_
 refine zR [1,2,13] [0] (Ak 7 tv) ?_
 refine zI (!decide ((↑(add.length):Int)=(↑((Shop.pigs s).length):Int))) (fun y0 => ?_) (fun y0 => ?_)
 ·refine swp_seq ?_
  refine zR [4] [] (Ak 1 tv) ?_
  refine swp_ret ?_
  exact zT [] (An (Ak 1 tv) (An (An (cb (o0 hpre y0)) (zr nilN)) (An (zr true) (An (zr true) (zr true)))))
 ·refine swp_skip ?_
  refine swp_seq ?_
  refine swp_seq ?_
  refine zR [1,2,14,15,16] [0] (Ak 3 tv) ?_
  refine swp_block ?_
  refine zL (Hint.ann (h68 s add) [(1,aInts add),(2,AV.ptr 0 []),(14,aInts add),(15,iv (↑(add.length):Int))] [(0,OB.cells 121 (cShop s))] 10096) (zE hE [] [(0,.same 0)] [1,14,15] [0] (An (An (An (zr (aInts add)) (zr true)) (An (An (zr (some (Src.same 0))) (zr nilP)) (An (An (zr (aInts add)) (zr true)) (An (An (zr (iv (↑(add.length):Int))) (zr true)) (An (An (ci (o1 hpre y0)) (zr nilN)) tv))))) (An (An (An (zr (OB.cells 121 (cShop s))) (zr true)) tv) (An (zr true) (zr true))))) (o2 hpre y0) (fun (x1:Nat) hx1 => ?_)
  refine swp_seq ?_
  refine zR [1,2,14,15,16,17] [0] (Ak 1 tv) ?_
  refine swp_seq ?_
  refine zI (decide ((x1:Int) < (↑(add.length):Int))) (fun y2 => ?_) (fun y2 => ?_)
  ·refine swp_skip ?_
   refine swp_seq ?_
   refine swp_block ?_
   refine swp_seq ?_
   refine zR [1,2,14,15,16,5,6] [0] (Ak 1 (An (An (o3 hpre y0 x1 hx1 y2) (o4 hpre y0 x1 hx1 y2)) (Ak 3 tv))) ?_
   refine swp_seq ?_
   refine zC ([(8,CallSpec.eq (s99 (add.getD x1 0) 0 (Pig.many (pig s x1))) [true,true,true])]) [1,2,14,15,16,30] [0] (Ak 5 (An (An (o5 hpre y0 x1 hx1 y2) (o6 hpre y0 x1 hx1 y2)) (Ak 2 (An (An (An (zr (iv (add.getD x1 0))) (An (zr (iv 0)) (An (zr (iv (Pig.many (pig s x1)))) tv))) (An (t99 (add.getD x1 0) (0) (Pig.many (pig s x1))) (Ak 2 (fun (i3:Env)=>tv)))) (Ak 1 tv))))) ?_
   refine zI (!within (add.getD x1 0) 0 (Pig.many (pig s x1))) (fun y4 => ?_) (fun y4 => ?_)
   ·refine swp_seq ?_
    refine zR [4] [] (Ak 1 tv) ?_
    refine swp_ret ?_
    exact zT [] (An (Ak 1 tv) (An (An (cb (o7 hpre y0 x1 hx1 y2 y4)) (zr nilN)) (An (zr true) (An (zr true) (zr true)))))
   ·refine swp_skip ?_
    refine zR [1,2,14,15,16] [0] (An (o8 hpre y0 x1 hx1 y2 y4) (Ak 1 tv)) ?_
    exact zn (zE hE [] [(0,.same 0)] [1,14,15] [0] (An (An (An (zr (aInts add)) (zr true)) (An (An (zr (some (Src.same 0))) (zr nilP)) (An (An (zr (aInts add)) (zr true)) (An (An (zr (iv (↑(add.length):Int))) (zr true)) (An (An (ci (o9 hpre y0 x1 hx1 y2 y4)) (zr nilN)) tv))))) (An (An (An (zr (OB.cells 121 (cShop s))) (zr true)) tv) (An (zr true) (zr true))))) (o10 hpre y0 x1 hx1 y2 y4) (o11 hpre y0 x1 hx1 y2 y4)
  ·refine swp_exit ?_
   refine swp_seq ?_
   refine zC ([(6,CallSpec.eq (c68 s add) [true,true,false])]) [4] [] (Ak 6 (An (An (An (zr (AV.agg (cShop s))) (An (zr (aInts add)) (Ak 1 tv))) (An (t100 (s) (add) (Pig.pounds)) (An (An (o12 hpre y0 x1 hx1 y2) (fun (i5:Nat)=>(fun (y6:i5 < (Shop.pigs s).length)=>(An (o13 hpre y0 x1 hx1 y2 i5 y6) (o14 hpre y0 x1 hx1 y2 i5 y6))))) (Ak 1 (fun (i7:Env)=>(fun (i8:List Value)=>(fun (y9:Env.le E0 i7)=>(fun (y10:i8.length=3)=>(fun (y11:∀ (k:Nat),Rel i7 true (List.getD [AV.agg (cShop s),aInts add,AV.clo 101 []] k AV.any) (i8.getD k undef))=>(o15 E0 hpre y0 x1 hx1 y2 i7 i8 y9 y10 y11)))))))))) (An (o16 hpre y0 x1 hx1 y2) (Ak 5 tv)))) ?_
   refine swp_ret ?_
   exact zT [] (An (Ak 1 tv) (An (An (cb (o17 hpre y0 x1 hx1 y2)) (zr nilN)) (An (zr true) (An (zr true) (zr true)))))
theorem t68 (s:Shop) (add:List Int):Triple Try.prog 68 (s68 s add):=by
 apply w68
 all_goals (try delta qi qj qk ql qm qn)
 case o15=>intro E0 hp h x hx hl E us le hlen hr; exact fn_pig (fun p=>s101 p) t101 (fun _=>rfl) (fun _=>trivial) (fun _ _=>trivial) (fun _=>rfl) (fun _=>rfl) (fun _=>rfl) (ne_sh s) (ne_in add) E us le hlen hr
 case o0=>intro hp h; symm; apply isAdd_no; intro h2; simp only [Bool.not_eq_true',decide_eq_false_iff_not] at h; omega
 all_goals (rintro ⟨hp,hb⟩ h; simp only [Bool.not_eq_false',decide_eq_true_eq] at h; replace h:add.length=s.pigs.length:=by omega)
 case o7 =>
  intro x hx hl h2
  simp only [decide_eq_true_eq] at hl
  symm; apply isAdd_no; intro h3
  have:=h3.2.1 x (by omega)
  unfold addAt at this
  rw [this] at h2; cases h2
 case o10 =>
  intro x hx hl h2
  simp only [decide_eq_true_eq] at hl
  exact ⟨by omega,lt_succ_cases hx.2 (by unfold addAt; simpa using h2)⟩
 case o12=>intro x hx hl; simp only [decide_eq_false_iff_not] at hl; exact add_ok hp h fun i hi=>hx.2 i (by omega)
 case o13=>intro x hx hl i hi; exact (pig_pounds hp i hi).1
 case o14=>intro x hx hl i hi; exact (pig_pounds hp i hi).2
 case o16 =>
  intro x hx hl; simp only [decide_eq_false_iff_not] at hl
  have ha:AddOK s add:=add_ok hp h fun i hi=>hx.2 i (by omega)
  have:=sumM_in ha (pig_pounds hp) (Nat.le_refl _)
  have:=hp.pounds
  show inI (s.pot.pounds + sumMT s add Pig.pounds add.length)
  constructor <;> omega
 case o17 =>
  intro x hx hl; simp only [decide_eq_false_iff_not] at hl
  rw [Bool.eq_iff_iff,isAdd_iff,decide_eq_true_eq]
  exact ⟨fun h2=>⟨h,fun i hi=>hx.2 i (by omega),h2⟩,fun h2=>h2.2.2⟩
 all_goals (try ((repeat intro _) <;> (try simp only [Bool.cond_true_left,Bool.cond_false_right,Bool.not_not,Bool.not_eq_true',Bool.not_eq_false',Bool.or_eq_true,Bool.or_eq_false_iff,Bool.and_eq_true,decide_eq_true_eq,decide_eq_false_iff_not,inI,big] at *) <;> first | (exact rfl) | omega | (exact ⟨Nat.zero_le _,fun j hj=>absurd hj (Nat.not_lt_zero j)⟩) | (simp_all; done) | (simp_all; omega)))
theorem w102 (s:Span) (n:Int)
  (o0:inI (s.lo + n)/\inI (s.hi + n)->s.lo + n=(shiftM s n).lo)
  (o1:inI (s.lo + n)/\inI (s.hi + n)->s.hi + n=(shiftM s n).hi) :
  Triple Try.prog 102 (s102 s n):=by
 refine triple_of Try.func102 rfl Try.call102 T0_ok _ rfl rfl rfl rfl (Nat.le_of_ble_eq_true (by kernel_rfl)) (fun _ _ _ _ h=>h) ?_
 intro hpre C hC _ hE
 obtain ⟨P,w0,E0,av,hA,ro,df⟩:=C
 obtain ⟨rfl,rfl,rfl⟩:=hC
 refine swp_seq ?_
 refine zR [1,2,4] [0,8] (Ak 2 tv) ?_
 refine swp_seq ?_
 refine zR [4] [8] (Ak 3 (An hpre.1 (Ak 3 (An hpre.2 (Ak 2 tv))))) ?_
 refine swp_ret ?_
 exact zT [] (An (Ak 1 tv) (An (An (An (ci (o0 hpre)) (zr nilN)) (An (An (ci (o1 hpre)) (zr nilN)) tv)) (An (zr true) (An (zr true) (zr true)))))
theorem t102 (s:Span) (n:Int):Triple Try.prog 102 (s102 s n):=by
 apply w102 <;> (intro _; rfl)
abbrev qo (s:Shop) (add:List Int) (Pq:Prop):Prop:=AddOK s add->Pq
theorem w69 (s:Shop) (add:List Int)
 (o0:qo s add (∀ (i0:Nat),i0 < (Shop.pigs s).length->0<=Pig.pounds (pig s i0)))
 (o1:qo s add (∀ (i0:Nat),i0 < (Shop.pigs s).length->Pig.pounds (pig s i0)<=99))
 (o2:∀ (E0:Env),AddOK s add -> ∀ (i2:Env) (i3:List Value),Env.le E0 i2->i3.length=3->(∀ (k:Nat),Rel i2 true (List.getD [AV.agg (cShop s),aInts add,AV.clo 101 []] k AV.any) (i3.getD k undef))->fnokOf Try.prog 0 (fun (p:Pig)=>[vPig p]) (fun (p:Pig)=>iv (Pig.pounds p)) (Env.mk i2.1 i2.2 i2.3 fun (k:Nat) (u:Value) => ∃ (i:Nat),[AV.agg (cShop s),aInts add,AV.fn 0][i]? = some (AV.fn k)/\i3[i]? = some u))
 (o3:qo s add (inI (Pot.pounds (Shop.pot s) + sumM s add Pig.pounds)))
 (o4:qo s add (∀ (i7:Nat),i7 < (Shop.pigs s).length->0<=Pig.tin (pig s i7)))
 (o5:qo s add (∀ (i7:Nat),i7 < (Shop.pigs s).length->Pig.tin (pig s i7)<=99))
 (o6:∀ (E0:Env),AddOK s add -> ∀ (i9:Env) (i10:List Value),Env.le E0 i9->i10.length=3->(∀ (k:Nat),Rel i9 true (List.getD [AV.agg (cShop s),aInts add,AV.clo 103 []] k AV.any) (i10.getD k undef))->fnokOf Try.prog 0 (fun (p:Pig)=>[vPig p]) (fun (p:Pig)=>iv (Pig.tin p)) (Env.mk i9.1 i9.2 i9.3 fun (k:Nat) (u:Value) => ∃ (i:Nat),[AV.agg (cShop s),aInts add,AV.fn 0][i]? = some (AV.fn k)/\i10[i]? = some u))
 (o7:qo s add (inI ((Pot.tin (Shop.pot s)).lo + sumM s add Pig.tin)))
 (o8:qo s add (inI ((Pot.tin (Shop.pot s)).hi + sumM s add Pig.tin)))
 (o9:qo s add (∀ (i15:Nat),i15 < (Shop.pigs s).length->0<=Pig.anti (pig s i15)))
 (o10:qo s add (∀ (i15:Nat),i15 < (Shop.pigs s).length->Pig.anti (pig s i15)<=99))
 (o11:∀ (E0:Env),AddOK s add -> ∀ (i17:Env) (i18:List Value),Env.le E0 i17->i18.length=3->(∀ (k:Nat),Rel i17 true (List.getD [AV.agg (cShop s),aInts add,AV.clo 104 []] k AV.any) (i18.getD k undef))->fnokOf Try.prog 0 (fun (p:Pig)=>[vPig p]) (fun (p:Pig)=>iv (Pig.anti p)) (Env.mk i17.1 i17.2 i17.3 fun (k:Nat) (u:Value) => ∃ (i:Nat),[AV.agg (cShop s),aInts add,AV.fn 0][i]? = some (AV.fn k)/\i18[i]? = some u))
 (o12:qo s add (inI ((Pot.anti (Shop.pot s)).lo + sumM s add Pig.anti)))
 (o13:qo s add (inI ((Pot.anti (Shop.pot s)).hi + sumM s add Pig.anti)))
 (o14:qo s add (Pot.pounds (Shop.pot s) + sumM s add Pig.pounds=Pot.pounds (afterM s add)))
 (o15:qo s add ((shiftM (Pot.tin (Shop.pot s)) (sumM s add Pig.tin)).lo=(Pot.tin (afterM s add)).lo))
 (o16:qo s add ((shiftM (Pot.tin (Shop.pot s)) (sumM s add Pig.tin)).hi=(Pot.tin (afterM s add)).hi))
 (o17:qo s add ((shiftM (Pot.anti (Shop.pot s)) (sumM s add Pig.anti)).lo=(Pot.anti (afterM s add)).lo))
 (o18:qo s add ((shiftM (Pot.anti (Shop.pot s)) (sumM s add Pig.anti)).hi=(Pot.anti (afterM s add)).hi)) :
  Triple Try.prog 69 (s69 s add):=by
 refine triple_of Try.func69 rfl Try.call69 T0_ok _ rfl rfl rfl rfl (Nat.le_of_ble_eq_true (by kernel_rfl)) (fun _ _ _ _ h=>h) ?_
 intro hpre C hC _ hE
 obtain ⟨P,w0,E0,av,hA,ro,df⟩:=C
 obtain ⟨rfl,rfl,rfl⟩:=hC
 refine swp_seq ?_
 refine zR [1,2,4] [0,8] (Ak 2 tv) ?_
 refine swp_seq ?_
 refine zC ([(6,CallSpec.eq (c69a s add) [true,true,false]),(14,CallSpec.eq (c69b s add) [true,true,false]),(15,CallSpec.eq (c69c s add) [true,true]),(22,CallSpec.eq (c69d s add) [true,true,false]),(23,CallSpec.eq (c69e s add) [true,true])]) [4] [8] (Ak 6 (An (An (An (zr (AV.agg (cShop s))) (An (zr (aInts add)) (Ak 1 tv))) (An (t100 (s) (add) (Pig.pounds)) (An (An hpre (fun (i0:Nat)=>(fun (y1:i0 < (Shop.pigs s).length)=>(An (o0 hpre i0 y1) (o1 hpre i0 y1))))) (Ak 1 (fun (i2:Env)=>(fun (i3:List Value)=>(fun (y4:Env.le E0 i2)=>(fun (y5:i3.length=3)=>(fun (y6:∀ (k:Nat),Rel i2 true (List.getD [AV.agg (cShop s),aInts add,AV.clo 101 []] k AV.any) (i3.getD k undef))=>(o2 E0 hpre i2 i3 y4 y5 y6)))))))))) (An (o3 hpre) (Ak 6 (An (An (An (zr (AV.agg (cShop s))) (An (zr (aInts add)) (Ak 1 tv))) (An (t100 (s) (add) (Pig.tin)) (An (An hpre (fun (i7:Nat)=>(fun (y8:i7 < (Shop.pigs s).length)=>(An (o4 hpre i7 y8) (o5 hpre i7 y8))))) (Ak 1 (fun (i9:Env)=>(fun (i10:List Value)=>(fun (y11:Env.le E0 i9)=>(fun (y12:i10.length=3)=>(fun (y13:∀ (k:Nat),Rel i9 true (List.getD [AV.agg (cShop s),aInts add,AV.clo 103 []] k AV.any) (i10.getD k undef))=>(o6 E0 hpre i9 i10 y11 y12 y13)))))))))) (An (An (An (zr (AV.agg (cSpan (Pot.tin (Shop.pot s))))) (An (zr (iv (sumM s add Pig.tin))) tv)) (An (t102 (Pot.tin (Shop.pot s)) (sumM s add Pig.tin)) (An (An (o7 hpre) (o8 hpre)) (Ak 1 (fun (i14:Env)=>tv))))) (Ak 6 (An (An (An (zr (AV.agg (cShop s))) (An (zr (aInts add)) (Ak 1 tv))) (An (t100 (s) (add) (Pig.anti)) (An (An hpre (fun (i15:Nat)=>(fun (y16:i15 < (Shop.pigs s).length)=>(An (o9 hpre i15 y16) (o10 hpre i15 y16))))) (Ak 1 (fun (i17:Env)=>(fun (i18:List Value)=>(fun (y19:Env.le E0 i17)=>(fun (y20:i18.length=3)=>(fun (y21:∀ (k:Nat),Rel i17 true (List.getD [AV.agg (cShop s),aInts add,AV.clo 104 []] k AV.any) (i18.getD k undef))=>(o11 E0 hpre i17 i18 y19 y20 y21)))))))))) (An (An (An (zr (AV.agg (cSpan (Pot.anti (Shop.pot s))))) (An (zr (iv (sumM s add Pig.anti))) tv)) (An (t102 (Pot.anti (Shop.pot s)) (sumM s add Pig.anti)) (An (An (o12 hpre) (o13 hpre)) (Ak 1 (fun (i22:Env)=>tv))))) (Ak 2 tv)))))))))) ?_
 refine swp_ret ?_
 exact zT [] (An (Ak 1 tv) (An (An (An (ci (o14 hpre)) (zr nilN)) (An (An (ci (o15 hpre)) (zr nilN)) (An (An (ci (o16 hpre)) (zr nilN)) (An (An (ci (o17 hpre)) (zr nilN)) (An (An (ci (o18 hpre)) (zr nilN)) tv))))) (An (zr true) (An (zr true) (zr true)))))
theorem t69 (s:Shop) (add:List Int):Triple Try.prog 69 (s69 s add):=by
 apply w69
 all_goals (try delta qo)
 case o2=>intro E0 hp E us le hlen hr; exact fn_pig (fun p=>s101 p) t101 (fun _=>rfl) (fun _=>trivial) (fun _ _=>trivial) (fun _=>rfl) (fun _=>rfl) (fun _=>rfl) (ne_sh s) (ne_in add) E us le hlen hr
 case o6=>intro E0 hp E us le hlen hr; exact fn_pig (fun p=>s103 p) t103 (fun _=>rfl) (fun _=>trivial) (fun _ _=>trivial) (fun _=>rfl) (fun _=>rfl) (fun _=>rfl) (ne_sh s) (ne_in add) E us le hlen hr
 case o11=>intro E0 hp E us le hlen hr; exact fn_pig (fun p=>s104 p) t104 (fun _=>rfl) (fun _=>trivial) (fun _ _=>trivial) (fun _=>rfl) (fun _=>rfl) (fun _=>rfl) (ne_sh s) (ne_in add) E us le hlen hr
 all_goals (intro hp; have h1:=sumM_in hp (pig_pounds hp.1) (Nat.le_refl _); have h2:=sumM_in hp (pig_tin hp.1) (Nat.le_refl _); have h3:=sumM_in hp (pig_anti hp.1) (Nat.le_refl _); have hs:=hp.1)
 case o0=>intro i hi; exact (pig_pounds hp.1 i hi).1
 case o1=>intro i hi; exact (pig_pounds hp.1 i hi).2
 case o3=>have:=hs.pounds; show inI (_ + sumMT s add Pig.pounds add.length); constructor <;> omega
 case o4=>intro i hi; exact (pig_tin hp.1 i hi).1
 case o5=>intro i hi; exact (pig_tin hp.1 i hi).2
 case o7=>have:=hs.tin; show inI (_ + sumMT s add Pig.tin add.length); constructor <;> omega
 case o8=>have:=hs.tin; show inI (_ + sumMT s add Pig.tin add.length); constructor <;> omega
 case o9=>intro i hi; exact (pig_anti hp.1 i hi).1
 case o10=>intro i hi; exact (pig_anti hp.1 i hi).2
 case o12=>have:=hs.anti; show inI (_ + sumMT s add Pig.anti add.length); constructor <;> omega
 case o13=>have:=hs.anti; show inI (_ + sumMT s add Pig.anti add.length); constructor <;> omega
 all_goals rfl
abbrev qp (s:Shop) (p:Pot) (Pq:Prop):Prop:=SoundM s/\smallPot p->Pq
abbrev qq (s:Shop) (p:Pot) (n:Int) (Pq:Prop):Prop:=qp s p (decide (n=1)=false->Pq)
theorem w106 (s:Shop) (p:Pot) (n:Int)
 (o0:qp s p (decide (n=1)=true->inI (1000 * (Pot.tin p).lo)))
 (o1:qp s p (decide (n=1)=true->inI (Pot.pounds p * (Shop.tinP s).lo)))
 (o2:qp s p (decide (n=1)=true->decide (1000 * (Pot.tin p).lo < Pot.pounds p * (Shop.tinP s).lo)=failM s p n))
 (o3:qq s p n (decide (n=2)=true->inI (1000 * (Pot.tin p).hi)))
 (o4:qq s p n (decide (n=2)=true->inI (Pot.pounds p * (Shop.tinP s).hi)))
 (o5:qq s p n (decide (n=2)=true->decide (Pot.pounds p * (Shop.tinP s).hi < 1000 * (Pot.tin p).hi)=failM s p n))
 (o6:qq s p n (decide (n=2)=false->decide (n=3)=true->inI (1000 * (Pot.anti p).lo)))
 (o7:qq s p n (decide (n=2)=false->decide (n=3)=true->inI (Pot.pounds p * (Shop.antiP s).lo)))
 (o8:qq s p n (decide (n=2)=false->decide (n=3)=true->decide (1000 * (Pot.anti p).lo < Pot.pounds p * (Shop.antiP s).lo)=failM s p n))
 (o9:qq s p n (decide (n=2)=false->decide (n=3)=false->inI (1000 * (Pot.anti p).hi)))
 (o10:qq s p n (decide (n=2)=false->decide (n=3)=false->inI (Pot.pounds p * (Shop.antiP s).hi)))
 (o11:qq s p n (decide (n=2)=false->decide (n=3)=false->decide (Pot.pounds p * (Shop.antiP s).hi < 1000 * (Pot.anti p).hi)=failM s p n)) :
  Triple Try.prog 106 (s106 s p n):=by
 refine triple_of Try.func106 rfl Try.call106 T0_ok _ rfl rfl rfl rfl (Nat.le_of_ble_eq_true (by kernel_rfl)) (fun _ _ _ _ h=>h) ?_
 intro hpre C hC _ hE
 obtain ⟨P,w0,E0,av,hA,ro,df⟩:=C
 obtain ⟨rfl,rfl,rfl⟩:=hC
 refine swp_seq ?_
 refine zR [2,3,4] [0,8] (Ak 3 tv) ?_
 refine swp_seq ?_
 refine swp_seq ?_
 refine zR [3,4,7] [0,8] (Ak 1 tv) ?_
 refine swp_block ?_
 refine swp_seq ?_
 refine zR [3,4,7,8] [0,8] (Ak 2 tv) ?_
 refine zI (decide (n=1)) (fun y0 => ?_) (fun y0 => ?_)
 ·refine swp_seq ?_
  refine zR [6] [] (Ak 3 (An (o0 hpre y0) (Ak 6 (An (o1 hpre y0) (Ak 2 tv))))) ?_
  refine swp_ret ?_
  exact zT [] (An (Ak 1 tv) (An (An (cb (o2 hpre y0)) (zr nilN)) (An (zr true) (An (zr true) (zr true)))))
 ·refine swp_seq ?_
  refine zR [3,4,7,22] [0,8] (Ak 2 tv) ?_
  refine zI (decide (n=2)) (fun y1 => ?_) (fun y1 => ?_)
  ·refine swp_seq ?_
   refine zR [6] [] (Ak 3 (An (o3 hpre y0 y1) (Ak 6 (An (o4 hpre y0 y1) (Ak 2 tv))))) ?_
   refine swp_ret ?_
   exact zT [] (An (Ak 1 tv) (An (An (cb (o5 hpre y0 y1)) (zr nilN)) (An (zr true) (An (zr true) (zr true)))))
  ·refine swp_seq ?_
   refine zR [3,4,36] [0,8] (Ak 2 tv) ?_
   refine zI (decide (n=3)) (fun y2 => ?_) (fun y2 => ?_)
   ·refine swp_seq ?_
    refine zR [6] [] (Ak 3 (An (o6 hpre y0 y1 y2) (Ak 6 (An (o7 hpre y0 y1 y2) (Ak 2 tv))))) ?_
    refine swp_ret ?_
    exact zT [] (An (Ak 1 tv) (An (An (cb (o8 hpre y0 y1 y2)) (zr nilN)) (An (zr true) (An (zr true) (zr true)))))
   ·refine swp_skip ?_
    refine swp_seq ?_
    refine zR [6] [] (Ak 3 (An (o9 hpre y0 y1 y2) (Ak 6 (An (o10 hpre y0 y1 y2) (Ak 2 tv))))) ?_
    refine swp_ret ?_
    exact zT [] (An (Ak 1 tv) (An (An (cb (o11 hpre y0 y1 y2)) (zr nilN)) (An (zr true) (An (zr true) (zr true)))))
theorem t106 (s:Shop) (p:Pot) (n:Int):Triple Try.prog 106 (s106 s p n):=by
 apply w106
 all_goals (try delta qp qq)
 all_goals (rintro ⟨hs,hq1,hq2,hq3⟩)
 all_goals (have e1:=mul_in (a:=p.pounds) (b:=s.tinP.lo) (m:=100000) (n:=1000) (by omega) (by have:=hs.tinP; omega); have e2:=mul_in (a:=p.pounds) (b:=s.tinP.hi) (m:=100000) (n:=1000) (by omega) (by have:=hs.tinP; omega))
 all_goals (have e3:=mul_in (a:=p.pounds) (b:=s.antiP.lo) (m:=100000) (n:=1000) (by omega) (by have:=hs.antiP; omega); have e4:=mul_in (a:=p.pounds) (b:=s.antiP.hi) (m:=100000) (n:=1000) (by omega) (by have:=hs.antiP; omega))
 all_goals (intros; simp only [decide_eq_true_eq,decide_eq_false_iff_not] at *)
 all_goals (try (simp only [inI]; omega))
 case o2=>subst_vars; rfl
 case o5=>subst_vars; rfl
 case o8=>subst_vars; rfl
 case o11=>unfold failM; rw [if_neg (by assumption),if_neg (by assumption),if_neg (by assumption)]
abbrev qr (q:Span) (all:Int) (Pq:Prop):Prop:=0<=q.lo/\q.lo<=1000/\0<=q.hi/\q.hi<=1000/\0<=all/\all<=100000->Pq
theorem w72 (q:Span) (all:Int)
 (o0:qr q all (inI (all * q.lo)))
 (o1:qr q all (inI (all * q.lo + 1000)))
 (o2:qr q all (inI (all * q.lo + 1000 - 1)))
 (o3:qr q all (0<=all * q.lo + 1000 - 1))
 (o4:qr q all (all * q.lo + 1000 - 1<=9223372036854775807))
 (o5:qr q all (inI (all * q.hi)))
 (o6:qr q all (0<=all * q.hi))
 (o7:qr q all (all * q.hi<=9223372036854775807))
 (o8:qr q all ((all * q.lo + 1000 - 1) / 1000=(justM q all).lo))
 (o9:qr q all (all * q.hi / 1000=(justM q all).hi)) :
  Triple Try.prog 72 (s72 q all):=by
 refine triple_of Try.func72 rfl Try.call72 T0_ok _ rfl rfl rfl rfl (Nat.le_of_ble_eq_true (by kernel_rfl)) (fun _ _ _ _ h=>h) ?_
 intro hpre C hC _ hE
 obtain ⟨P,w0,E0,av,hA,ro,df⟩:=C
 obtain ⟨rfl,rfl,rfl⟩:=hC
 refine swp_seq ?_
 refine zR [1,2,4] [0,8] (Ak 2 tv) ?_
 refine swp_seq ?_
 refine zR [4] [8] (Ak 3 (An (o0 hpre) (An (o1 hpre) (An (o2 hpre) (An (An (o3 hpre) (An (by decide:Int.ofNat 0 < Int.ofNat 1000) (o4 hpre))) (Ak 3 (An (o5 hpre) (An (An (o6 hpre) (An (by decide:Int.ofNat 0 < Int.ofNat 1000) (o7 hpre))) (Ak 2 tv))))))))) ?_
 refine swp_ret ?_
 exact zT [] (An (Ak 1 tv) (An (An (An (ci (o8 hpre)) (zr nilN)) (An (An (ci (o9 hpre)) (zr nilN)) tv)) (An (zr true) (An (zr true) (zr true)))))
theorem t72 (q:Span) (all:Int):Triple Try.prog 72 (s72 q all):=by
 apply w72
 all_goals (try delta qr)
 all_goals (rintro ⟨h1,h2,h3,h4,h5,h6⟩; have e1:=mul_in (a:=all) (b:=q.lo) ⟨h5,h6⟩ ⟨h1,h2⟩; have e2:=mul_in (a:=all) (b:=q.hi) ⟨h5,h6⟩ ⟨h3,h4⟩)
 case o8 =>
  show _=(all * q.lo + 999).tdiv 1000
  rw [Int.tdiv_eq_ediv_of_nonneg (by omega),show all * q.lo + 1000 - 1=all * q.lo + 999 by omega]
 case o9 =>
  show _=(all * q.hi).tdiv 1000
  rw [Int.tdiv_eq_ediv_of_nonneg (by omega)]
 all_goals (first | omega | (simp only [inI]; omega))
theorem w71 (a:Span) (b:Span)
  (o0:decide (max a.lo b.lo<=min a.hi b.hi)=meetM a b) :
  Triple Try.prog 71 (s71 a b):=by
 refine triple_of Try.func71 rfl Try.call71 T0_ok _ rfl rfl rfl rfl (Nat.le_of_ble_eq_true (by kernel_rfl)) (fun _ _ _ _ h=>h) ?_
 intro _ C hC _ hE
 obtain ⟨P,w0,E0,av,hA,ro,df⟩:=C
 obtain ⟨rfl,rfl,rfl⟩:=hC
 refine swp_seq ?_
 refine zR [2,3] [0,8] (Ak 3 tv) ?_
 refine swp_seq ?_
 refine zR [4] [] (Ak 12 tv) ?_
 refine swp_ret ?_
 exact zT [] (An (Ak 1 tv) (An (An (cb (o0)) (zr nilN)) (An (zr true) (An (zr true) (zr true)))))
theorem t71 (a b:Span):Triple Try.prog 71 (s71 a b):=w71 a b rfl
theorem w67 (s:Shop) (add:List Int) :
  Triple Try.prog 67 (s67 s add):=by
 refine triple_of Try.func67 rfl Try.call67 T0_ok _ rfl rfl rfl rfl (Nat.le_of_ble_eq_true (by kernel_rfl)) (fun _ _ _ _ h=>h) ?_
 intro hpre C hC _ hE
 obtain ⟨P,w0,E0,av,hA,ro,df⟩:=C
 obtain ⟨rfl,rfl,rfl⟩:=hC
 refine swp_seq ?_
 refine zR [1,2] [0] (Ak 2 tv) ?_
 refine swp_seq ?_
 refine zC ([(2,CallSpec.eq (s68 s add) [true,true])]) [3] [] (Ak 2 (An (An (An (zr (AV.agg (cShop s))) (An (zr (aInts add)) tv)) (An (t68 (s) (add)) (An (An hpre.1 hpre.2) (Ak 1 (fun (i0:Env)=>tv))))) (Ak 1 tv))) ?_
 refine swp_ret ?_
 exact zT [] (An (Ak 1 tv) (An (An (zr (bv (isAddM s add))) (zr nilN)) (An (zr true) (An (zr true) (zr true)))))
theorem t67 (s:Shop) (add:List Int):Triple Try.prog 67 (s67 s add):=w67 s add
theorem w73 (s:Shop) (add:List Int) :
  Triple Try.prog 73 (s73 s add):=by
 refine triple_of Try.func73 rfl Try.call73 T0_ok _ rfl rfl rfl rfl (Nat.le_of_ble_eq_true (by kernel_rfl)) (fun _ _ _ _ h=>h) ?_
 intro hpre C hC _ hE
 obtain ⟨P,w0,E0,av,hA,ro,df⟩:=C
 obtain ⟨rfl,rfl,rfl⟩:=hC
 refine swp_seq ?_
 refine zR [1,2] [0] (Ak 2 tv) ?_
 refine swp_seq ?_
 refine zC ([(2,CallSpec.eq (s68 s add) [true,true])]) [3] [] (Ak 2 (An (An (An (zr (AV.agg (cShop s))) (An (zr (aInts add)) tv)) (An (t68 (s) (add)) (An (An hpre.1 hpre.2) (Ak 1 (fun (i0:Env)=>tv))))) (Ak 1 tv))) ?_
 refine swp_ret ?_
 exact zT [] (An (Ak 1 tv) (An (An (zr (bv (isAddM s add))) (zr nilN)) (An (zr true) (An (zr true) (zr true)))))
theorem t73 (s:Shop) (add:List Int):Triple Try.prog 73 (s73 s add):=w73 s add
end Go.Ab
namespace Go.Ab
open Go Go.RowKit
def LeftK (C:Ctx) (nt:Nat) (hp:List (Nat × OB)) (good:Prop):AX->ASt->Prop
 | .normal,st=>(∃ nx,Ent C nt st ⟨[],hp,nx⟩)/\good
 | .ret,st=>(∃ nx,Ent C nt st ⟨[],hp,nx⟩) /\ ¬ good
 | _,_=>False
theorem swp_rangeS {C:Ctx} {nt:Nat} {K:AX->ASt->Prop} {st:ASt} {gf:FuncId} {g:Operand} {p q:Tmp} {assign body:Code} {b:Nat} {t:TypeId} {v:Value} (N:Nat) (kt:List Nat) (L:List Int) (good:Int->Prop)
    (hro:C.ro=none) (hdf:C.df=true) (hg:opAV (look st.tm) g = .clo gf []) (hcall:Callable C.P gf) (hhp:st.hp = [(b,.cells t [.lit v])]) (hb:b < N) (hp:p < nt) (hq:q < nt) (hpq:p ≠ q)
    (hid:((kt.map fun k=>(k,look st.tm k)).all fun q=>kV [b] q.2)=true)
    (hseq:∀ w,SeqStops Fence.wide 0 C.P gf #[] (fun n:Int=>Value.int .i64 n) (fun xs=>xs=L) (fun pre => ∀ n ∈ pre,n ∈ L) L.length w)
    (hassign:∀ (tmps:Array Value) (l:Nat) (n:Int) (W:World) (K':Act->World->Prop),tmps.size=nt->K' { tmps:=(tmps.setIfInBounds p (.int .i64 n)).setIfInBounds q (.int .i64 n),defers:=[] } W →
      assign.wpIn (Fence.wide.inRound l) 0 C.P (Exit.then K' (fun _ _ _=>False)) { tmps:=tmps.setIfInBounds p (.int .i64 n),defers:=[] } W)
    (hbody:∀ n:Int,∀ C':Ctx,C'.P=C.P->(∀ j,N<=j->C'.E0.blk j=none/\C'.E0.hdr j=none)->SWP C' nt body (LeftK C' nt st.hp (good n)) ⟨(q,.lit (.int .i64 n)) :: (p,.lit (.int .i64 n)) :: (kt.map fun k=>(k,look st.tm k)),st.hp,N⟩)
    (hkn:(∀ n ∈ L,good n)->K .normal st) (hkr:(∃ n ∈ L,¬ good n)->K .ret st):SWP C nt (.rangeFunc g #[p] assign body) K st:=by
  intro E w a hs
  have hF:C.F=Fence.wide:=by unfold Ctx.F; rw [hro]; rfl
  rw [hF]
  refine wpIn_wide.2 ((wpIn_wide (n:=1)).1 ?_)
  have hgr:=opAV_rel hs.ok.tm g
  simp only at hgr
  rw [hg] at hgr
  have hge:a.eval g = .func (.func gf) #[] #[]:=by
    generalize a.eval g=uf at hgr
    cases hgr with
    | clo _ hcl hcr =>
      rename_i us
      have:us = []:=List.eq_nil_of_length_eq_zero hcl
      subst this; rfl
  have hh:=hs.ok.heap
  have hHb:Heap.of st.hp b=some (.cells t [.lit v]):=by rw [hhp]; simp [Heap.of]
  have hHo:∀ i ob,Heap.of st.hp i=some ob->i=b/\ob = .cells t [.lit v]:=by
    intro i ob h
    have:=Heap.of_mem h
    rw [hhp] at this
    simp only [List.mem_singleton,Prod.mk.injEq] at this
    exact this
  obtain ⟨kb,us0,hkb,hav,hMb,hwb,hr0⟩:=hh.own b _ hHb
  have hus0:us0 = [v]:=by
    cases hr0 with
    | cons h h1 hs =>
      cases h; cases hs; rfl
  have hv1:v.oneCell'=true:=by
    cases hr0 with
    | cons h h1 hs=>cases h; exact h1
  subst hus0
  have hkbl:kb < w.heap.size:=(Array.getElem?_eq_some_iff.1 hwb).1
  have hMlt:∀ x o,E.M x=some o->x < w.heap.size:=fun x o h=>(Array.getElem?_eq_some_iff.1 (hh.mem x o h)).1
  -- behind the loop
  have hend:∀ (D:Nat) (W:World),w.heap.size<=D->Below w.heap.size w W->W.heap[D]? = some (.deferred (some [])) -> ∃ E',Sat C E' nt st W { a with defers:={ target := .collected D,args := #[] } :: a.defers }:=by
    intro D W hD hB hK
    let E4:Env:={ E with M:=fun x=>if x=D then some (.deferred (some [])) else E.M x }
    have le4:E.le E4:=⟨fun x o h=>by
      show (if x=D then _ else E.M x)=some o
      rw [if_neg (by have:=hMlt x o h; omega)]; exact h,fun _ _ h=>h,fun _ _ h=>h,rfl⟩
    have hMk:E4.M kb=none:=by show (if kb=D then _ else E.M kb)=none; rw [if_neg (by omega)]; exact hMb
    refine ⟨E4,⟨⟨?_,fun k=>(hs.ok.tm k).mono le4,⟨(fun h=>by rw [hdf] at h; cases h),⟨D,rfl,if_pos rfl,?_,fun d' hd' e => ?_⟩,hs.ok.defers.2.monoM le4.M⟩,hs.ok.size⟩,hs.fresh⟩⟩
    · refine ⟨hB.os.trans hh.os,hB.tape.trans hh.tape,hB.output.trans hh.output,Nat.le_trans hh.size hB.size,fun x hx => ?_,fun x o hx => ?_,hh.le.trans le4,fun x o hx => ?_,fun i ob hi => ?_,fun i j k hij hi hj _ _ => ?_⟩
      · have hlt:x < w.heap.size:=Nat.lt_of_not_le fun hle=>hx (C.hA x (Nat.le_trans hh.size hle))
        rw [hB.block x hlt]; exact hh.pres x hx
      · replace hx:(if x=D then some (.deferred (some [])) else E.M x)=some o:=hx
        split at hx
        · cases hx; rename_i e; rw [e]; exact hK
        · rw [hB.block x (hMlt x o hx)]; exact hh.mem x o hx
      · replace hx:(if x=D then some (.deferred (some [])) else E.M x)=some o:=hx
        split at hx
        · rename_i e; exact .inr (C.hA x (by rw [e]; exact Nat.le_trans hh.size hD))
        · exact hh.ext x o hx
      · obtain ⟨rfl,rfl⟩:=hHo i ob hi
        exact ⟨kb,[v],hkb,hav,hMk,by rw [hB.block kb hkbl]; exact hwb,.cons (.lit v) hv1 .nil⟩
      · have g1:∀ i,Heap.of st.hp i ≠ none->i=b:=fun i h=>by
          cases e:Heap.of st.hp i with
          | none=>exact absurd e h
          | some ob=>exact (hHo i ob e).1
        exact absurd ((g1 i hi).trans (g1 j hj).symm) hij
    · cases e:C.E0.M D with
      | none=>rfl
      | some o=>have:=hMlt D o (hh.le.M D o e); omega
    · obtain ⟨D',h1,h2⟩:=hs.ok.defers.2.mem d' hd'
      rw [h1] at e
      have h3:D'=D:=by injection e with e1 _; injection e1
      have:=hMlt D' _ h2
      omega
  refine wpIn_rangeFunc_ownF (F:=Fence.wide) (n:=1) rfl (Nat.le_refl _) (gf:=gf) (lb := #[]) hge trivial hcall (encs:=fun n:Int => #[Value.int .i64 n]) (Kp:=KeepsWalks)
    (seqStopsA_iff.1 (seqStops_iff.1 (hseq w))) walksK_t walksK_b (Below.refl _ w) (fun _=>rfl)
    (fun pre W=>Below w.heap.size w W /\ ∀ n ∈ pre,good n) (fun c pre W=>c = .ret/\Below w.heap.size w W /\ ∃ n ∈ pre,¬ good n)
    ?hI ?hIx ⟨Below.refl _ w,fun n hn=>(by cases hn)⟩
    (fun n=>{ tmps:=(a.tmps.setIfInBounds p (.int .i64 n)).setIfInBounds q (.int .i64 n),defers:=[] }) ?assign ?body ?done ?stop
  case hI =>
    intro s W W' row hI hg hr
    exact ⟨ownFrom_below (β:=List Int) (n₀:=w.heap.size) (B:=w.heap.size) (w₀:=w) (Nat.le_refl _) (Nat.le_refl _) s W W' row hI.1 hg hr,hI.2⟩
  case hIx =>
    intro c s W W' row hI hg hr
    exact ⟨hI.1,ownFrom_below (β:=List Int) (n₀:=w.heap.size) (B:=w.heap.size) (w₀:=w) (Nat.le_refl _) (Nat.le_refl _) s W W' row hI.2.1 hg hr,hI.2.2⟩
  case assign =>
    intro l n W K' hK
    simpa using hassign a.tmps l n W K' hs.ok.size hK
  case body =>
    rintro l pre n W ⟨hB,hpre⟩ hlen
    let av:Nat->Prop:=fun x=>W.heap.size<=x ∨ x=kb
    let E0:Env:={ E with blk:=fun j=>if j ∈ [b] then E.blk j else none,hdr:=fun j=>if j ∈ [b] then E.hdr j else none }
    have hb0:E0.blk b=some kb:=(if_pos (by simp)).trans hkb
    have hs0:∀ c,c ∈ [b]->E.blk (renI [] c)=E0.blk c/\E.hdr (renI [] c)=E0.hdr c:=fun c hc=>⟨(if_pos hc).symm,(if_pos hc).symm⟩
    let CA:Ctx:=⟨C.P,W,E0,av,fun _ h => .inl h,some l,false⟩
    have hWkb:W.heap[kb]? = some (.cells #[v] t (0,0)):=by rw [hB.block kb hkbl]; exact hwb
    have hokA:HeapOK CA E0 (Heap.of st.hp) W:=by
      refine ⟨rfl,rfl,rfl,Nat.le_refl _,fun _ _=>rfl,fun x o hx => ?_,Env.le.refl _,fun x o h => .inl h,fun i ob hi => ?_,fun i j k hij hi hj _ _ => ?_⟩
      · rw [hB.block x (hMlt x o hx)]; exact hh.mem x o hx
      · obtain ⟨rfl,rfl⟩:=hHo i ob hi
        exact ⟨kb,[v],hb0,.inr rfl,hMb,hWkb,.cons (.lit v) hv1 .nil⟩
      · have g1:∀ i,Heap.of st.hp i ≠ none->i=b:=fun i h=>by
          cases e:Heap.of st.hp i with
          | none=>exact absurd e h
          | some ob=>exact (hHo i ob e).1
        exact absurd ((g1 i hi).trans (g1 j hj).symm) hij
    have hnone:∀ j,N<=j->E0.blk j=none/\E0.hdr j=none:=fun j hj=>⟨if_neg (by simp; omega),if_neg (by simp; omega)⟩
    have hsz:a.tmps.size=nt:=hs.ok.size
    have htm:∀ k,Rel E0 true (look ((q,.lit (.int .i64 n)) :: (p,.lit (.int .i64 n)) :: (kt.map fun k=>(k,look st.tm k))) k) (((a.tmps.setIfInBounds p (.int .i64 n)).setIfInBounds q (.int .i64 n)).getD k undef):=by
      intro k
      simp only [look]
      by_cases e1:q=k
      · subst e1
        rw [if_pos rfl]
        have:((a.tmps.setIfInBounds p (.int .i64 n)).setIfInBounds q (.int .i64 n)).getD q undef = .int .i64 n:=by simp [Array.getD_eq_getD_getElem?,hsz,hq]
        rw [this]; exact .lit _
      · rw [if_neg e1]
        have h1:((a.tmps.setIfInBounds p (.int .i64 n)).setIfInBounds q (.int .i64 n)).getD k undef=(a.tmps.setIfInBounds p (.int .i64 n)).getD k undef:=by simp [Array.getD_eq_getD_getElem?,Array.getElem?_setIfInBounds_ne e1]
        rw [h1]
        by_cases e2:p=k
        · subst e2
          rw [if_pos rfl]
          have:(a.tmps.setIfInBounds p (.int .i64 n)).getD p undef = .int .i64 n:=by simp [Array.getD_eq_getD_getElem?,hsz,hp]
          rw [this]; exact .lit _
        · rw [if_neg e2]
          have h2:(a.tmps.setIfInBounds p (.int .i64 n)).getD k undef=a.tmps.getD k undef:=by simp [Array.getD_eq_getD_getElem?,Array.getElem?_setIfInBounds_ne e2]
          rw [h2]
          refine rnV_inv (E:=E0) (F:=E) (l:=[]) rfl rfl hs0 (look_all (p:=kV [b]) rfl hid k) ?_
          rw [rnV_nil]
          exact look_map hs.ok.tm kt k
    have hsat:Sat CA E0 nt ⟨(q,.lit (.int .i64 n)) :: (p,.lit (.int .i64 n)) :: (kt.map fun k=>(k,look st.tm k)),st.hp,N⟩ W { tmps:=(a.tmps.setIfInBounds p (.int .i64 n)).setIfInBounds q (.int .i64 n),defers:=[] } :=
      ⟨⟨hokA,htm,⟨fun _=>rfl,trivial⟩,by simp [hsz]⟩,fun j hj=>hnone j hj⟩
    have hsw:=hbody n CA rfl hnone E0 W _ hsat
    refine wpIn_mono (F:=Fence.wide.inRound l) hsw ?_
    rintro e a1 w1 ⟨x,E3,st3,rfl,hs3,hk3⟩
    have fin:∀ nx,Ent CA nt st3 ⟨[],st.hp,nx⟩->KeepsOthers W w1/\Below w.heap.size w w1:=by
      intro nx hent
      obtain ⟨E5,hs5⟩:=hent E3 w1 a1 hs3
      have h5:=hs5.ok.heap
      obtain ⟨k5,us5,hk5,_,_,hw5,hr5⟩:=h5.own b _ hHb
      have e5:k5=kb:=by
        have:=h5.le.blk b kb hb0
        rw [this] at hk5; cases hk5; rfl
      have u5:us5 = [v]:=by
        cases hr5 with
        | cons h h1 hs=>cases h; cases hs; rfl
      subst e5; subst u5
      refine ⟨⟨h5.size,fun k o hk ho => ?_⟩,⟨h5.os.trans hB.os,h5.tape.trans hB.tape,h5.output.trans hB.output,Nat.le_trans hB.size h5.size,fun k hk => ?_⟩⟩
      · have hkl:=(Array.getElem?_eq_some_iff.1 hk).1
        by_cases e:k=k5
        · rw [e,hWkb] at hk; cases hk; cases ho
        · rw [h5.pres k (fun h=>h.elim (fun h=>by have:W.heap.size<=k:=h; omega) e)]; exact hk
      · by_cases e:k=k5
        · rw [e,hw5,hwb]
        · rw [h5.pres k (fun h=>h.elim (fun h=>by have:W.heap.size<=k:=h; have:=hB.size; omega) e)]; exact hB.block k hk
    cases x with
    | normal =>
      obtain ⟨⟨nx,hent⟩,hgd⟩:=hk3
      obtain ⟨f1,f2⟩:=fin nx hent
      refine ⟨f1,f1.walks,f2,fun m hm => ?_⟩
      rcases List.mem_append.1 hm with h | h
      · exact hpre m h
      · simp only [List.mem_singleton] at h; rw [h]; exact hgd
    | ret =>
      obtain ⟨⟨nx,hent⟩,hgd⟩:=hk3
      obtain ⟨f1,f2⟩:=fin nx hent
      exact ⟨f1,rfl,f2,n,by simp,hgd⟩
    | exit id=>exact hk3.elim
  case done =>
    intro D xs W hD hS hI hK
    obtain ⟨E',hs'⟩:=hend D W hD hI.1 hK
    exact ⟨.normal,E',st,rfl,hs',hkn (fun n hn=>hI.2 n (by rw [hS]; exact hn))⟩
  case stop =>
    rintro D c pre W hD hS ⟨rfl,hB,n,hn,hbad⟩ hK
    obtain ⟨E',hs'⟩:=hend D W hD hB hK
    exact wpIn_ret ⟨.ret,E',st,rfl,hs',hkr ⟨n,hS n hn,hbad⟩⟩
end Go.Ab
namespace Go.Ab
open Go Go.RowKit Go.Proofs Go.Sh Go.En
attribute [local go_sem] Oper.semAt_some
def upTo (k:Nat):List Int:=(List.range k).map fun (i:Nat)=>(i:Int) + 1
theorem upTo_succ (k:Nat):upTo (k + 1)=upTo k ++ [(k:Int) + 1]:=by unfold upTo; rw [List.range_succ,List.map_append]; rfl
theorem upTo_len (k:Nat):(upTo k).length=k:=by simp [upTo]
theorem upTo_mem {k:Nat} (h:k<=4):∀ n ∈ upTo k,n ∈ [(1:Int),2,3,4]:=by
 intro n hn
 unfold upTo at hn
 obtain ⟨i,hi,rfl⟩:=List.mem_map.1 hn
 have:=List.mem_range.1 hi
 have:i=0 ∨ i=1 ∨ i=2 ∨ i=3:=by omega
 rcases this with rfl | rfl | rfl | rfl <;> simp
set_option maxRecDepth 100000 in
set_option maxHeartbeats 1000000 in
theorem limits_in (l:Nat) (J Jx:List Int->World->Prop)
    (hY:∀ pre x W,J pre W->pre.length < 4->YieldAt Fence.wide 0 Try.prog l #[.int .i64 x] W fun e W' =>
      (e = .returned (.bool true)/\J (pre ++ [x]) W'/\KeepsWalks W W') ∨ (e = .returned (.bool false)/\Jx (pre ++ [x]) W'))
    (W:World) (h0:J [] W) :
    CallsIn Fence.wide 0 Try.prog 105 #[.func (.yield l) #[] #[]] W fun e W'=>(∃ v,e = .returned v) ∧
      ((∃ ys,ys = [(1:Int),2,3,4]/\J ys W') ∨ (∃ pre,(∀ n ∈ pre,n ∈ [(1:Int),2,3,4])/\Jx pre W')):=by
  refine callsIn_of_wp Try.func105 rfl trivial ?_ rfl
  simp only [Try.ntmps105,List.size_toArray,List.length_cons,List.length_nil,Nat.reduceAdd,Nat.reduceSub,Array.replicate_succ,Array.replicate_zero,List.push_toArray,List.append_toArray,List.nil_append,List.cons_append]
  gi_wp2
  gi_loopw [2] (fun p wr => ∃ k:Nat,p = .int .i64 ((k:Int) + 1)/\k<=4/\J (upTo k) wr) (fun p wr=>match p with | .int _ n=>(5 - n).toNat | _=>0)
  case atStart=>exact ⟨0,rfl,by omega,h0⟩
  case round =>
    obtain ⟨k,rfl,hk,hJs⟩:=hrel
    by_cases h4:k=4
    · subst h4
      gi_wp2
      go_end0
      exact ⟨⟨_,rfl⟩,.inl ⟨upTo 4,by decide,hJs⟩⟩
    · obtain ⟨fn,tmps,assign,body,hy,hR⟩:=hY (upTo k) ((k:Int) + 1) wr hJs (by rw [upTo_len]; omega)
      gi_wp2
      refine ⟨rfl,hR.mono ?_⟩
      rintro e W3 (⟨rfl,hJ3,hk3⟩ | ⟨rfl,hJx3⟩)
      · gi_wp2
        go_roundw
        case rel=>exact ⟨k + 1,by simp,by omega,by rw [upTo_succ]; exact hJ3⟩
        case measure=>simp; omega
      · gi_wp2
        refine bodyPost_ret (results_none rfl _ _ _) rfl ?_
        exact ⟨⟨_,rfl⟩,.inr ⟨upTo k ++ [(k:Int) + 1],by rw [← upTo_succ]; exact upTo_mem (by omega),hJx3⟩⟩
theorem limits_stops (w:World):SeqStops Fence.wide 0 Try.prog 105 #[] (fun n:Int=>Value.int .i64 n) (fun xs=>xs = [(1:Int),2,3,4]) (fun pre => ∀ n ∈ pre,n ∈ [(1:Int),2,3,4]) [(1:Int),2,3,4].length w :=
 fun l J Jx W _ _ _ hY h0=>limits_in l J Jx hY W h0
theorem fails_any (s:Shop) (p:Pot):safeM s p=true ↔ ∀ n ∈ [(1:Int),2,3,4],failM s p n=false:=by
 unfold safeM
 simp only [Bool.and_eq_true,Bool.not_eq_true',List.mem_cons,List.not_mem_nil,or_false,forall_eq_or_imp,forall_eq]
 constructor
 ·rintro ⟨⟨⟨h1,h2⟩,h3⟩,h4⟩; exact ⟨h1,h2,h3,h4⟩
 ·rintro ⟨h1,h2,h3,h4⟩; exact ⟨⟨⟨h1,h2⟩,h3⟩,h4⟩
def focM2:CallSpec:={ args:=[],res := .any }
set_option maxHeartbeats 4000000 in
theorem t70 (s:Shop) (p:Pot):Triple Try.prog 70 (s70 s p):=by
 refine triple_of Try.func70 rfl Try.call70 T0_ok _ rfl rfl rfl rfl (Nat.le_of_ble_eq_true (by kernel_rfl)) (fun _ _ _ _ h=>h) ?_
 intro hpre C hC hfn hE
 obtain ⟨P,w0,E0,av,hA,ro,df⟩:=C
 obtain ⟨rfl,rfl,rfl⟩:=hC
 refine swp_seq ?_
 refine zC ([(0,focM2),(1,focM2)]) [2,3,4] [16] (Ak 3 tv) ?_
 refine swp_seq ?_
 refine swp_block ?_
 refine swp_rangeS (gf:=105) (b:=16) (t:=4) (v := .bool false) (q:=5) 6000 [2,3,4] [1,2,3,4] (fun n=>failM s p n=false) rfl rfl rfl Try.call105 rfl (by decide) (by decide) (by decide) (by decide) (by kernel_rfl) limits_stops ?_ ?_ ?_ ?_
 ·intro tmps l n W K' hsz hK
  obtain ⟨u0,u1,u2,u3,u4,u5,u6,u7,u8,u9,u10,rfl⟩:∃ u0 u1 u2 u3 u4 u5 u6 u7 u8 u9 u10,tmps = #[u0,u1,u2,u3,u4,u5,u6,u7,u8,u9,u10]:=by
   rcases tmps with ⟨m⟩
   match m,hsz with
   | [a0,a1,a2,a3,a4,a5,a6,a7,a8,a9,a10],_=>exact ⟨_,_,_,_,_,_,_,_,_,_,_,rfl⟩
  simp only [List.setIfInBounds_toArray,List.set_cons_zero,List.set_cons_succ] at hK ⊢
  gi_wp2
  exact hK
 ·intro n C' hC' hE'
  obtain ⟨P,w0,E0,av,hA,ro,df⟩:=C'
  subst hC'
  refine swp_block ?_
  refine swp_seq ?_
  refine zC ([(3,CallSpec.eq (s106 s p n) [true,true,true])]) [4,10] [16] (Ak 3 (An (An (An (zr (AV.agg (cShop s))) (An (zr (AV.agg (cPot p))) (An (zr (iv n)) tv))) (An (t106 s p n) (An hpre (Ak 1 (fun (i3:Env)=>tv))))) tv)) ?_
  refine zI (failM s p n) (fun y => ?_) (fun y => ?_)
  ·refine swp_seq ?_
   refine zR [4] [16] (Ak 1 tv) ?_
   refine swp_ret ?_
   exact ⟨⟨1006000,zEn 6000 hE' [] [(16,.same 16)] [] [16] (Ak 1 (An (An (An (zr (OB.cells 4 [bv false])) (zr true)) tv) (An (zr true) (zr true))))⟩,by rw [y]; decide⟩
  ·refine swp_skip ?_
   exact ⟨⟨1006000,zEn 6000 hE' [] [(16,.same 16)] [] [16] (Ak 1 (An (An (An (zr (OB.cells 4 [bv false])) (zr true)) tv) (An (zr true) (zr true))))⟩,y⟩
 ·intro h
  refine swp_seq ?_
  refine zR [4] [16] (Ak 1 tv) ?_
  refine swp_ret ?_
  exact zT [] (An (Ak 1 tv) (An (An (cb ((fails_any s p).2 h).symm) (zr nilN)) (An (zr true) (An (zr true) (zr true)))))
 ·rintro ⟨n,hn,hbad⟩
  exact zT [] (An (Ak 1 tv) (An (An (cb (show false=safeM s p from by
   cases e:safeM s p with
   | false=>rfl
   | true=>exact absurd ((fails_any s p).1 e n hn) hbad)) (zr nilN)) (An (zr true) (An (zr true) (zr true)))))
end Go.Ab
namespace Go.Proofs
open Go.Shelf
def Try.lays189_ren:Go.Shelf.Ren:=⟨fun | 189=>139 | 125=>143 | 257=>142 | 128=>153 | 129=>154 | 294=>144 | 295=>145 | 296=>146 | 297=>147 | 298=>148 | 299=>149 | 216=>150 | 300=>151 | 301=>152 | 328=>155 | 329=>156 | 330=>157 | 331=>158 | 332=>159 | 215=>136 | 343=>160 | n=>n,fun | 28=>26 | 3=>3 | 46=>141 | 0=>0 | 51=>200 | 53=>202 | 4=>4 | 183=>194 | 182=>193 | 131=>197 | 5=>5 | 9=>9 | 218=>203 | 222=>207 | 228=>209 | 229=>210 | n=>n,fun | n=>n⟩
theorem Try.lays189:Go.Proofs.Lays.n189 Try.prog Try.lays189_ren:={
 mixed:=by kernel_rfl
 f125:=Try.func143.trans (congrArg some (by kernel_rfl))
 f128:=Try.func153.trans (congrArg some (by kernel_rfl))
 f129:=Try.func154.trans (congrArg some (by kernel_rfl))
 f189:=Try.func139.trans (congrArg some (by kernel_rfl))
 f215:=Try.func136.trans (congrArg some (by kernel_rfl))
 f216:=Try.func150.trans (congrArg some (by kernel_rfl))
 f257:=Try.func142.trans (congrArg some (by kernel_rfl))
 f294:=Try.func144.trans (congrArg some (by kernel_rfl))
 f295:=Try.func145.trans (congrArg some (by kernel_rfl))
 f296:=Try.func146.trans (congrArg some (by kernel_rfl))
 f297:=Try.func147.trans (congrArg some (by kernel_rfl))
 f298:=Try.func148.trans (congrArg some (by kernel_rfl))
 f299:=Try.func149.trans (congrArg some (by kernel_rfl))
 f300:=Try.func151.trans (congrArg some (by kernel_rfl))
 f301:=Try.func152.trans (congrArg some (by kernel_rfl))
 f328:=Try.func155.trans (congrArg some (by kernel_rfl))
 f329:=Try.func156.trans (congrArg some (by kernel_rfl))
 f330:=Try.func157.trans (congrArg some (by kernel_rfl))
 f331:=Try.func158.trans (congrArg some (by kernel_rfl))
 f332:=Try.func159.trans (congrArg some (by kernel_rfl))
 f343:=Try.func160.trans (congrArg some (by kernel_rfl))
 t0:=Try.underlying0
 a0:=Try.isAgg0
 z0:=Try.sizeOf0
 v0:=Try.zeroValue0
 t3:=Try.underlying3
 a3:=Try.isAgg3
 z3:=Try.sizeOf3
 v3:=Try.zeroValue3
 t4:=Try.underlying4
 a4:=Try.isAgg4
 z4:=Try.sizeOf4
 v4:=Try.zeroValue4
 t5:=Try.underlying5
 a5:=Try.isAgg5
 z5:=Try.sizeOf5
 v5:=Try.zeroValue5
 t9:=Try.underlying9
 a9:=Try.isAgg9
 z9:=Try.sizeOf9
 v9:=Try.zeroValue9
 t28:=Try.underlying26
 a28:=Try.isAgg26
 z28:=Try.sizeOf26
 v28:=Try.zeroValue26
 t46:=Try.underlying141
 a46:=Try.isAgg141
 z46:=Try.sizeOf141
 v46:=Try.zeroValue141
 t51:=Try.underlying200
 a51:=Try.isAgg200
 z51:=Try.sizeOf200
 v51:=Try.zeroValue200
 t53:=Try.underlying202
 a53:=Try.isAgg202
 z53:=Try.sizeOf202
 v53:=Try.zeroValue202
 t131:=Try.underlying197
 a131:=Try.isAgg197
 z131:=Try.sizeOf197
 v131:=Try.zeroValue197
 t182:=Try.underlying193
 a182:=Try.isAgg193
 z182:=Try.sizeOf193
 v182:=Try.zeroValue193
 t183:=Try.underlying194
 a183:=Try.isAgg194
 z183:=Try.sizeOf194
 v183:=Try.zeroValue194
 t218:=Try.underlying203
 a218:=Try.isAgg203
 z218:=Try.sizeOf203
 v218:=Try.zeroValue203
 t222:=Try.underlying207
 a222:=Try.isAgg207
 z222:=Try.sizeOf207
 v222:=Try.zeroValue207
 t228:=Try.underlying209
 a228:=Try.isAgg209
 z228:=Try.sizeOf209
 v228:=Try.zeroValue209
 t229:=Try.underlying210
 a229:=Try.isAgg210
 z229:=Try.sizeOf210
 v229:=Try.zeroValue210 }
open Go.Sort Go.RowKit in
theorem Try.slices_Sort_int (blk off cap:Nat) (zs:List Int) (w:World) (hH:Holds (Value.int .i64) w blk off zs.toArray) (hblk:blk < w.heap.size) (hsz:zs.length < 4611686018427387904) :
  Calls Try.prog 139 #[.slice (some ⟨blk,off,none⟩) zs.length cap] w fun e w' =>
   e = .returned (.tuple #[]) /\ ∃ n os,w'=grow (putRow (Value.int .i64) (Sort.ahead w n) blk off (zs.mergeSort fun x y=>decide (x<=y)).toArray) os:=Any.slices_Sort_int Try.lays189 blk off cap zs w hH hblk hsz
theorem Try.slices_Sort_int_none (p:Option Addr) (cap:Nat) (w:World):Calls Try.prog 139 #[.slice p 0 cap] w fun e w'=>e = .returned (.tuple #[])/\w'=w:=Any.slices_Sort_int_none Try.lays189 p cap w
end Go.Proofs
namespace Go.Sh
def sortI (l:List Int):List Int:=l.mergeSort (fun x y=>decide (x<=y))
theorem sortI_len (l:List Int):(sortI l).length=l.length:=List.length_mergeSort _
end Go.Sh
namespace Go.Ab
open Go Go.RowKit Go.Sort Go.Sh
theorem putRow_heap {α:Type} [Inhabited α] (enc:α->Value) (w:World) (q k:Nat) (ys:List α) (os:Array Obj) (us:List Value) (e:TypeId) (hw:w.heap[k]? = some (.cells us.toArray e (0,0))) (hl:ys.length<=us.length) :
  (grow (putRow enc (Sort.ahead w q) k 0 ys.toArray) os).heap[k]? = some (.cells (ys.map enc ++ us.drop ys.length).toArray e (0,0))/\w.grownBy (grow (putRow enc (Sort.ahead w q) k 0 ys.toArray) os) (some k):=by
 have hlt:k < w.heap.size:=(Array.getElem?_eq_some_iff.1 hw).1
 have hsz:(putRow enc (Sort.ahead w q) k 0 ys.toArray).heap.size=w.heap.size:=by simp [putRow,mapBlock,Sort.ahead]
 refine ⟨?_,⟨rfl,rfl,rfl,by rw [size_grow,hsz]; omega,fun j hj hne => ?_⟩⟩
 ·rw [heap_grow_old _ _ (by rw [hsz]; exact hlt)]
  show ((Sort.ahead w q).heap.modify k _)[k]? = _
  have hw':(Sort.ahead w q).heap[k]? = some (.cells us.toArray e (0,0)):=hw
  rw [Array.getElem?_modify,if_pos rfl,hw']
  simp only [Option.map_some,onCells,Option.some.injEq,Obj.cells.injEq,and_true]
  apply Array.ext_getElem?
  intro i
  simp only [putCells,Array.getElem?_mapIdx,List.getElem?_toArray,List.size_toArray,Nat.zero_le,true_and,Nat.zero_add,Nat.sub_zero]
  by_cases h1:i < ys.length
  ·rw [List.getElem?_append_left (by simpa using h1),List.getElem?_map,List.getElem?_eq_getElem h1,List.getElem?_eq_getElem (show i < us.length by omega)]
   simp only [Option.map_some,if_pos h1]
   rw [getElem!_pos _ i (by simpa using h1)]
   simp
  ·rw [List.getElem?_append_right (by simpa using h1),List.getElem?_drop]
   have:ys.length + (i - (List.map enc ys).length)=i:=by simp; omega
   rw [this]
   cases us[i]? with
   | none=>rfl
   | some u=>simp only [Option.map_some,if_neg h1]
 ·rw [heap_grow_old _ _ (by rw [hsz]; exact hj)]
  show ((Sort.ahead w q).heap.modify k _)[j]? = _
  rw [Array.getElem?_modify,if_neg (fun e=>hne (by rw [e]))]
  rfl
def rowI (t:TypeId) (l:List Int):OB := .vec t 1 l.length (fun i=>[iv (l.getD i 0)])
theorem rowI_flat {E:Env} {l:List Int} {g:Nat->List Value} (hr:∀ i,i < l.length->RelL E false [iv (l.getD i 0)] (g i)):(List.range l.length).flatMap g=l.map (Value.int .i64):=by
 have h1:∀ i,i < l.length->g i = [Value.int .i64 (l.getD i 0)]:=by
  intro i hi
  have:=hr i hi
  generalize g i=x at this
  cases this with
  | cons h _ hs=>cases hs; cases h; rfl
 refine List.ext_getElem? fun i => ?_
 have hlen:=flat_length g 1 l.length (fun i hi=>by rw [h1 i hi]; rfl)
 by_cases hi:i < l.length
 ·have:=flat_get g 1 l.length (fun i hi=>by rw [h1 i hi]; rfl) i 0 hi (by omega)
  simp only [Nat.mul_one,Nat.add_zero] at this
  rw [this,h1 i hi,List.getElem?_map,List.getElem?_eq_getElem hi]
  simp [List.getD,List.getElem?_eq_getElem hi]
 ·rw [List.getElem?_eq_none (by omega),List.getElem?_eq_none (by simpa using hi)]
theorem rowI_rel (E:Env) (l:List Int):∀ i,i < l.length->RelL E false [iv (l.getD i 0)] [Value.int .i64 (l.getD i 0)]:=fun i _ => .cons (.lit _) rfl .nil
theorem rowI_flat' (l:List Int):(List.range l.length).flatMap (fun i=>[Value.int .i64 (l.getD i 0)])=l.map (Value.int .i64):=by
 let E0:Env:=⟨fun _=>none,fun _=>none,fun _=>none,fun _ _=>False⟩
 exact rowI_flat (E:=E0) (rowI_rel E0 l)
theorem holdsI {w:World} {k:Nat} {l:List Int} {us:List Value} {e:TypeId} (hw:w.heap[k]? = some (.cells us.toArray e (0,0))) (ht:us.take l.length=l.map (Value.int .i64)):Holds (Value.int .i64) w k 0 l.toArray:=by
 intro j hj
 have hj':j < l.length:=by simpa using hj
 have h1:us[j]? = some (.int .i64 l[j]):=by
  have:=congrArg (fun x=>x[j]?) ht
  simp only [List.getElem?_take,if_pos hj',List.getElem?_map,List.getElem?_eq_getElem hj',Option.map_some] at this
  exact this
 refine ⟨?_,?_⟩
 ·rw [Nat.zero_add,getElem!_pos _ j hj]
  simp only [World.cell?,hw]
  simpa using h1
 ·simp only [World.frozen?,hw]
  rfl
theorem own_rowI {C:Ctx} {E:Env} {w:World} {b:Nat} {t:TypeId} {l:List Int} (h:OwnOB C E w b (rowI t l)) (hn:0 < l.length) :
  ∃ k cap us,E.hdr b=some (.slice (some ⟨k,0,none⟩) l.length cap)/\l.length<=cap/\cap<=maxLen/\w.heap[k]? = some (.cells (List.toArray us) t (0,0))/\us.length=cap/\us.take l.length=l.map (Value.int .i64)/\E.blk b=some k/\C.avail k/\E.M k=none:=by
 obtain ⟨hd,g,hh,ho,hl,hr,hbk,hav⟩:=h
 rcases ownsRow_form ho with ⟨_,h0⟩ | ⟨k,cap,rfl,hnc,hcm,us,hw,hul,hut⟩
 ·omega
 ·rw [Nat.mul_one] at hul hut
  rw [rowI_flat hr] at hut
  exact ⟨k,cap,us,hh,hnc,hcm,hw,hul,hut,hbk,(hav k rfl).1,(hav k rfl).2⟩
theorem ownsRow_of {w:World} {k cap:Nat} {us:List Value} {t:TypeId} {l:List Int} (hw:w.heap[k]? = some (.cells us.toArray t (0,0))) (hnc:l.length<=cap) (hcm:cap<=maxLen) (hul:us.length=cap) (hut:us.take l.length=l.map (Value.int .i64)) :
  w.ownsRow 0 t 1 (.slice (some ⟨k,0,none⟩) l.length cap) l.length ((List.range l.length).flatMap (fun i=>[Value.int .i64 (l.getD i 0)])):=by
 rw [rowI_flat']
 refine ⟨by simp,.inr ⟨k,cap,us.toArray,rfl,Nat.zero_le _,hw,hnc,hcm,by simpa using hul,by simpa using hut⟩⟩
theorem triple_sort {P:Program} {f:FuncId} (hcall:Callable P f) (t:TypeId) (b:Nat) (l:List Int)
  (h:∀ k cap w,Holds (Value.int .i64) w k 0 l.toArray->k < w.heap.size->l.length < 4611686018427387904->Calls P f #[.slice (some ⟨k,0,none⟩) l.length cap] w fun e w'=>e = .returned (.tuple #[]) /\ ∃ n os,w'=grow (putRow (Value.int .i64) (Sort.ahead w n) k 0 (sortI l).toArray) os) :
  Triple P f { args:=[.vec b],pre:=0 < l.length/\l.length<=65536,hin:=[(b,rowI t l)],res := .tup [],hout:=[(b,rowI t (sortI l))] }:=by
 refine ⟨hcall,fun hpre E w vs _ hok hlen hrel _ => ?_⟩
 obtain ⟨v,rfl⟩:∃ v,vs = [v]:=by
  match vs,hlen with
  | [v],_=>exact ⟨v,rfl⟩
 have hv:=hrel 0
 simp only [List.getD_cons_zero] at hv
 have hob:Heap.of [(b,rowI t l)] b=some (rowI t l):=by rw [Heap.of_cons,if_pos rfl]
 obtain ⟨k,cap,us,hh,hnc,hcm,hw,hul,hut,hbk,hav,hM⟩:=own_rowI (hok.own b _ hob) hpre.1
 cases hv with
 | vec _ hh' _ =>
 rw [hh] at hh'
 cases hh'
 have hlt:k < w.heap.size:=(Array.getElem?_eq_some_iff.1 hw).1
 refine (h k cap w (holdsI hw hut) hlt (by omega)).mono ?_
 rintro e w' ⟨rfl,n,os,rfl⟩
 obtain ⟨h1,hg⟩:=putRow_heap (Value.int .i64) w n k (sortI l) os us t hw (by rw [sortI_len]; omega)
 refine ⟨_,E,rfl,?_,.tup rfl (fun k=>by simp; exact .any _),fun _ _=>⟨rfl,rfl⟩⟩
 have:=hok.setVec b k (by rw [hob]; simp) hbk hav hM hg (rowI t (sortI l)) ?_
 ·refine this.drop fun i ob hi => ?_
  rw [Heap.of_cons] at hi
  split at hi
  ·rename_i e; cases hi; unfold Heap.put; rw [if_pos e.symm]
  ·cases hi
 ·refine ⟨_,fun i=>[Value.int .i64 ((sortI l).getD i 0)],hh,?_,fun _ _=>rfl,rowI_rel E _,hbk,fun k' hk' => ?_⟩
  ·have:=ownsRow_of (l:=sortI l) (cap:=cap) h1 (by rw [sortI_len]; exact hnc) hcm (by simp [sortI_len,hul]; omega) (by rw [List.take_append_of_le_length (by rw [List.length_map]; exact Nat.le_refl _)]; exact List.take_of_length_le (by rw [List.length_map]; exact Nat.le_refl _))
   rw [sortI_len] at this ⊢
   exact this
  ·cases hk'; exact ⟨hav,hM⟩
end Go.Ab
namespace Go.Ab
open Go Go.RowKit Go.Sort Go.Sh
theorem triple_sort0 {P:Program} {f:FuncId} (hcall:Callable P f) (t:TypeId) (b:Nat) (l:List Int)
  (h:∀ k cap w,Holds (Value.int .i64) w k 0 l.toArray->k < w.heap.size->l.length < 4611686018427387904->Calls P f #[.slice (some ⟨k,0,none⟩) l.length cap] w fun e w'=>e = .returned (.tuple #[]) /\ ∃ n os,w'=grow (putRow (Value.int .i64) (Sort.ahead w n) k 0 (l.mergeSort fun x y=>decide (x<=y)).toArray) os)
  (h0:∀ p cap w,Calls P f #[.slice p 0 cap] w fun e w'=>e = .returned (.tuple #[])/\w'=w) :
  Triple P f { args:=[.vec b],pre:=l.length<=65536,hin:=[(b,rowI t l)],res := .tup [],hout:=[(b,rowI t (sortI l))] }:=by
 refine ⟨hcall,fun hpre E w vs hfn hok hlen hrel hfr => ?_⟩
 cases l with
 | cons x l=>exact (triple_sort hcall t b (x :: l) h).2 ⟨Nat.succ_pos _,hpre⟩ E w vs hfn hok hlen hrel hfr
 | nil =>
  obtain ⟨v,rfl⟩:∃ v,vs = [v]:=by
   match vs,hlen with
   | [v],_=>exact ⟨v,rfl⟩
  have hv:=hrel 0
  simp only [List.getD_cons_zero] at hv
  have hob:Heap.of [(b,rowI t [])] b=some (rowI t []):=by rw [Heap.of_cons,if_pos rfl]
  have hown:=hok.own b _ hob
  have hs:sortI [] = []:=by simp [sortI]
  have fin:∀ u,E.hdr b=some u->Calls P f #[u] w (fun e w'=>e = .returned (.tuple #[])/\w'=w)->Calls P f #[v] w (CallPost P { args:=[.vec b],pre:=([]:List Int).length<=65536,hin:=[(b,rowI t [])],res := .tup [],hout:=[(b,rowI t (sortI []))] } E w):=by
   intro u hu hc
   cases hv with
   | vec _ hh' _ =>
   rw [hu] at hh'
   cases hh'
   refine hc.mono ?_
   rintro e w' ⟨rfl,rfl⟩
   exact ⟨_,E,rfl,by rw [hs]; exact hok,.tup rfl (fun k=>by simp; exact .any _),fun _ _=>⟨rfl,rfl⟩⟩
  obtain ⟨hd,g,hh,ho,_⟩:=hown
  rcases ownsRow_form ho with ⟨hv',_⟩ | ⟨k,cap,hv',_⟩
  ·exact fin hd hh (by rw [hv']; exact h0 none 0 w)
  ·exact fin hd hh (by rw [hv']; exact h0 _ cap w)
end Go.Ab
namespace Go.Ab
open Go Go.RowKit Go.Proofs Go.Sh Go.En
def s139 (b:Nat) (l:List Int):CallSpec:={ args:=[.vec b],pre:=l.length<=65536,hin:=[(b,rowI 3 l)],res := .tup [],hout:=[(b,rowI 3 (sortI l))] }
theorem t139 (b:Nat) (l:List Int):Triple Try.prog 139 (s139 b l):=triple_sort0 Try.call139 3 b l (fun k cap w h1 h2 h3=>Try.slices_Sort_int k 0 cap l w h1 h2 h3) (fun p cap w=>Try.slices_Sort_int_none p cap w)
end Go.Ab
namespace Go.Sh
structure Strip where
 thick:Int
 many:Int
 deriving DecidableEq,Inhabited
structure Piece where
 lo:Int
 hi:Int
 pence:Int
 deriving DecidableEq,Inhabited
structure Frm where
 length:Int
 slack:Int
 strips:List Strip
 pieces:List Piece
 columns:List (List Int)
 deriving DecidableEq,Inhabited
def stp (f:Frm) (i:Nat):Strip:=f.strips.getD i default
def pc (f:Frm) (i:Nat):Piece:=f.pieces.getD i default
def col (f:Frm) (i:Nat):List Int:=f.columns.getD i []
def allC (f:Frm):List Int:=f.columns.flatten
def isPc (f:Frm) (n:Int):Bool:=within n 0 ((f.pieces.length:Int) - 1)
def okStrip (s:Strip):Bool:=within s.thick 1 30 && within s.many 0 4
def okPiece (p:Piece):Bool:=within p.hi 0 99 && within p.lo 0 p.hi && within p.pence 0 99
def okHeadF (f:Frm):Bool:=within f.length 0 300 && within f.slack 0 9 && decide ((f.strips.length:Int)<=3) && decide ((f.pieces.length:Int)<=6) && decide ((f.columns.length:Int)<=3)
def cntL (l:List Int) (n:Int):Int:=((l.filter (fun x=>decide (x=n))).length:Int)
def okOrd (f:Frm):Bool:=(List.range f.pieces.length).all (fun i=>decide (cntL (allC f) i=1)) && (allC f).all (isPc f)
def okFrm (f:Frm):Bool:=okHeadF f && f.strips.all okStrip && f.pieces.all okPiece && okOrd f
def checkF (f:Frm):Int:=if okFrm f then 0 else 30
def openF (f:Frm) (is:Bool):Int:=if okFrm f then (if is then 0 else 1) else 30
def isSetAt (f:Frm) (set:List Int) (i:Nat):Bool:=within (set.getD i 0) 0 (stp f i).many
def isSet (f:Frm) (set:List Int):Bool:=decide (set.length=f.strips.length) && (List.range set.length).all (isSetAt f set)
def hiStep (f:Frm) (s:Span) (p:Int):Span:=⟨s.lo + (pc f p.toNat).lo,s.hi + (pc f p.toNat).hi⟩
def highP (f:Frm) (l:List Int):Span:=l.foldl (hiStep f) ⟨0,0⟩
def ptTo (f:Frm) (set:List Int) (n:Nat):Int:=(List.range n).foldl (fun a i=>a + set.getD i 0 * (stp f i).thick) 0
def pointsP (f:Frm) (set:List Int):Int:=ptTo f set set.length
def roomP (f:Frm) (s:Span):Span:=⟨max 0 (f.length - f.slack - s.lo),f.length - s.hi⟩
def fitsF (f:Frm):Prop:=f.strips.length<=Go.Ab.big/\f.pieces.length<=Go.Ab.big/\f.columns.length<=Go.Ab.big /\ ∀ i,(col f i).length<=Go.Ab.big
def smallF (f:Frm):Prop:=f.strips.length<=64/\f.pieces.length<=64/\f.columns.length<=64 /\ ∀ i,(col f i).length<=64
def okS (f:Frm) (n:Nat):Bool:=okHeadF f && (List.range n).all (fun j=>okStrip (stp f j))
def okP (f:Frm) (n:Nat):Bool:=okS f f.strips.length && (List.range n).all (fun j=>okPiece (pc f j))
def pre95 (f:Frm) (n k:Nat):List Int:=(f.columns.take n).flatten ++ (col f n).take k
def srt (f:Frm):List Int:=sortI (allC f)
structure Sound (f:Frm):Prop where
 len:0<=f.length/\f.length<=300
 slack:0<=f.slack/\f.slack<=9
 strips:f.strips.length<=3
 pieces:f.pieces.length<=6
 columns:f.columns.length<=3
 strip:∀ i,i < f.strips.length->1<=(stp f i).thick/\(stp f i).thick<=30/\0<=(stp f i).many/\(stp f i).many<=4
 piece:∀ i,i < f.pieces.length->0<=(pc f i).lo/\(pc f i).lo<=(pc f i).hi/\(pc f i).hi<=99/\0<=(pc f i).pence/\(pc f i).pence<=99
 colLen:∀ i,(col f i).length<=6
 colIn:∀ i k,k < (col f i).length->0<=(col f i).getD k 0/\(col f i).getD k 0 < f.pieces.length
def goodL (f:Frm) (l:List Int):Prop:=l.length<=6 /\ ∀ k,k < l.length->0<=l.getD k 0/\l.getD k 0 < f.pieces.length
def nilF:Frm:=⟨0,0,[],[],[]⟩
def openFr (f:Frm) (is:Bool):Frm:=if okFrm f && is then f else nilF
def hugeF (f:Frm):Bool:=decide ((f.strips.length:Int) > 40) || decide ((f.pieces.length:Int) > 40) || decide ((f.columns.length:Int) > 40) || f.columns.any (fun l=>decide ((l.length:Int) > 40))
def prodF (f:Frm) (n:Nat):Int:=(List.range n).foldl (fun a i=>a * ((stp f i).many + 1)) 1
def farF (f:Frm):Bool:=hugeF f || (okFrm f && decide (prodF f f.strips.length > 30))
end Go.Sh
namespace Go.En
open Go Go.Ab Go.Sh
def cStrip (s:Strip):List AV:=[iv s.thick,iv s.many]
def cPiece (p:Piece):List AV:=[iv p.lo,iv p.hi,iv p.pence]
def cFrm (f:Frm):List AV:=[iv f.length,iv f.slack,.sl 2 f.strips.length (fun i=>cStrip (stp f i)),.sl 3 f.pieces.length (fun i=>cPiece (pc f i)),.sl 1 f.columns.length (fun i=>[aInts (col f i)])]
abbrev vFrm (f:Frm):AV := .agg (cFrm f)
end Go.En
namespace Go.Ab
open Go Go.RowKit Go.Proofs Go.Sh Go.En
def clo95 (f:Frm):AV := .clo 126 [.rp (cFrm f)]
def h95a (f:Frm):Hint:={ X:=Nat,M:=fun x=>[(10,iv x)],H:=fun x=>[(0,.cells 26 [.vec 5000]),(5000,rowI 3 (pre95 f x 0))],I:=fun x=>x<=f.columns.length,mu:=fun x=>f.columns.length - x,x0:=(0:Nat),nx:=fun x=>x + 1 }
def h95b (f:Frm) (x:Nat):Hint:={ X:=Nat,M:=fun k=>[(16,iv k)],H:=fun k=>[(0,.cells 26 [.vec 5000]),(5000,rowI 3 (pre95 f x k))],I:=fun k=>k<=(col f x).length,mu:=fun k=>(col f x).length - k,x0:=(0:Nat),nx:=fun k=>k + 1 }
def r141 (f:Frm):RangeH:={ J:=Nat × Nat,ok:=fun j=>j.1 < f.columns.length/\j.2 < (col f j.1).length,Y:=fun j=>{ args:=[iv ((col f j.1).getD j.2 0)],hin:=[(0,.cells 26 [.vec 5000]),(5000,rowI 3 (pre95 f j.1 j.2))],res:=bv true,hout:=[(0,.cells 26 [.vec 20160]),(20160,rowI 3 (pre95 f j.1 (j.2 + 1)))] },hp:=[(0,.cells 26 [.vec 5000]),(5000,rowI 3 (allC f))] }
def y141 (f:Frm) (x k:Nat):CallSpec:=(r141 f).Y (x,k)
def ou141 (f:Frm):OutSpec:={ args:=[nilv,clo95 f],pre:=smallF f,res := .vec 0,hout:=[(0,rowI 3 (allC f))] }
def s141o (f:Frm) (id:Nat):CallSpec:=(ou141 f).at [(0,id)]
def ou138 (f:Frm):OutSpec:={ args:=[clo95 f],pre:=smallF f,res := .vec 0,hout:=[(0,rowI 3 (allC f))] }
def c138 (f:Frm) (id:Nat):CallSpec:=s141o f id
def s138o (f:Frm) (id:Nat):CallSpec:=(ou138 f).at [(0,id)]
def s125 (f:Frm):CallSpec:={ args:=[clo95 f],pre:=smallF f,res:=aInts (srt f) }
def c125 (f:Frm) (id:Nat):CallSpec:=s138o f id
def cs125 (f:Frm):CallSpec:=s139 16 (allC f)
def s124 (n lo hi:Int):CallSpec:={ args:=[iv n,iv lo,iv hi],res:=bv (within n lo hi) }
def s57 (n lo hi:Int):CallSpec:={ args:=[iv n,iv lo,iv hi],res:=bv (within n lo hi) }
def s59 (f:Frm) (n:Int):CallSpec:={ args:=[vFrm f,iv n],res:=bv (isPc f n),pre:=fitsF f }
def s96 (f:Frm) (l:List Int):CallSpec:={ args:=[vFrm f,aInts l],res:=vSpan (highP f l),pre:=Sound f/\goodL f l }
def h96 (f:Frm) (l:List Int):Hint:={ X:=Nat,M:=fun i=>[(9,iv i),(4,.ptr 5000 [])],H:=fun i=>[(5000,.cells 51 (cSpan (highP f (l.take i))))],I:=fun i=>i<=l.length,mu:=fun i=>l.length - i,x0:=(0:Nat),nx:=fun i=>i + 1 }
def s129 (f:Frm) (set:List Int):CallSpec:={ args:=[vFrm f,aInts set],res:=iv (pointsP f set),pre:=Sound f/\isSet f set=true }
def h129 (f:Frm) (set:List Int):Hint:={ X:=Nat,M:=fun i=>[(5,iv (ptTo f set i)),(10,iv i)],I:=fun i=>i<=set.length,mu:=fun i=>set.length - i,x0:=(0:Nat),nx:=fun i=>i + 1 }
def s95 (f:Frm) (s:Span):CallSpec:={ args:=[vFrm f,vSpan s],res:=vSpan (roomP f s),pre:=Sound f/\0<=s.lo/\s.lo<=s.hi/\s.hi<=1000 }
def s58 (f:Frm) (p:Int):CallSpec:={ args:=[vFrm f,iv p],res:=iv (cntL (allC f) p),pre:=fitsF f/\f.columns.length<=3 }
def h58a (f:Frm) (p:Int):Hint:={ X:=Nat,M:=fun c=>[(5,iv (cntL (pre95 f c 0) p)),(6,iv c)],I:=fun c=>c<=f.columns.length,mu:=fun c=>f.columns.length - c,x0:=(0:Nat),nx:=fun c=>c + 1 }
def h58b (f:Frm) (p:Int) (c:Nat):Hint:={ X:=Nat,M:=fun k=>[(5,iv (cntL (pre95 f c k) p)),(7,iv k)],I:=fun k=>k<=(col f c).length,mu:=fun k=>(col f c).length - k,x0:=(0:Nat),nx:=fun k=>k + 1 }
def s91 (f:Frm):CallSpec:={ args:=[vFrm f],res:=iv (checkF f),pre:=smallF f }
def h91a (f:Frm):Hint:={ X:=Nat,M:=fun i=>[(3,bv (okS f i)),(40,iv i)],I:=fun i=>i<=f.strips.length,mu:=fun i=>f.strips.length - i,x0:=(0:Nat),nx:=fun i=>i + 1 }
def h91b (f:Frm):Hint:={ X:=Nat,M:=fun i=>[(3,bv (okP f i)),(59,iv i)],I:=fun i=>i<=f.pieces.length,mu:=fun i=>f.pieces.length - i,x0:=(0:Nat),nx:=fun i=>i + 1 }
def h91c (f:Frm):Hint:={ X:=Nat,M:=fun i=>[(97,iv i)],I:=fun i=>i<=(srt f).length /\ ∀ j,j < i->(srt f).getD j 0=(j:Int),mu:=fun i=>(srt f).length - i,x0:=(0:Nat),nx:=fun i=>i + 1 }
def s24 (f:Frm):CallSpec:={ args:=[vFrm f],res:=iv (checkF f),pre:=fitsF f }
def h24a (f:Frm):Hint:={ X:=Nat,M:=fun i=>[(3,iv i)],I:=fun i=>i<=f.strips.length /\ ∀ j,j < i->okStrip (stp f j)=true,mu:=fun i=>f.strips.length - i,x0:=(0:Nat),nx:=fun i=>i + 1 }
def c24 (f:Frm) (x:Nat):CallSpec:=s53 ⟨(pc f x).lo,(pc f x).hi⟩ 99
def h24b (f:Frm):Hint:={ X:=Nat,M:=fun i=>[(4,iv i)],I:=fun i=>i<=f.pieces.length /\ ∀ j,j < i->okPiece (pc f j)=true/\cntL (allC f) j=1,mu:=fun i=>f.pieces.length - i,x0:=(0:Nat),nx:=fun i=>i + 1 }
def h24c (f:Frm):Hint:={ X:=Nat,M:=fun i=>[(5,iv i)],I:=fun i=>i<=f.columns.length /\ ∀ j,j < i->(col f j).all (isPc f)=true,mu:=fun i=>f.columns.length - i,x0:=(0:Nat),nx:=fun i=>i + 1 }
def h24d (f:Frm) (c:Nat):Hint:={ X:=Nat,M:=fun i=>[(6,iv i)],I:=fun i=>i<=(col f c).length /\ ∀ j,j < i->isPc f ((col f c).getD j 0)=true,mu:=fun i=>(col f c).length - i,x0:=(0:Nat),nx:=fun i=>i + 1 }
def s63 (f:Frm) (is:Bool):CallSpec:={ args:=[vFrm f,bv is],res := .tup [vFrm (openFr f is),iv (openF f is)],pre:=smallF f }
def s56 (f:Frm):CallSpec:={ args:=[vFrm f],res:=bv (hugeF f),pre:=fitsF f }
def h56 (f:Frm):Hint:={ X:=Nat,M:=fun i=>[(3,iv i)],I:=fun i=>i<=f.columns.length /\ ∀ j,j < i->decide (((col f j).length:Int) > 40)=false,mu:=fun i=>f.columns.length - i,x0:=(0:Nat),nx:=fun i=>i + 1 }
def s23 (f:Frm):CallSpec:={ args:=[vFrm f],res:=bv (farF f),pre:=fitsF f }
def h23 (f:Frm):Hint:={ X:=Nat,M:=fun i=>[(3,iv (prodF f i)),(4,iv i)],I:=fun i=>i<=f.strips.length,mu:=fun i=>f.strips.length - i,x0:=(0:Nat),nx:=fun i=>i + 1 }
end Go.Ab
namespace Go.Sh
open Go.Ab
theorem pre_succ (f:Frm) {c k:Nat} (h:k < (col f c).length):pre95 f c (k + 1)=pre95 f c k ++ [(col f c).getD k 0]:=by
 unfold pre95; rw [take_succ _ 0 h,List.append_assoc]
theorem pre_next (f:Frm) {c k:Nat} (h:c < f.columns.length) (hk:(col f c).length<=k):pre95 f c k=pre95 f (c + 1) 0:=by
 unfold pre95
 rw [take_succ _ [] h,List.flatten_append,List.take_of_length_le hk]
 simp [col]
theorem pre_end (f:Frm) {c:Nat} (h:f.columns.length<=c):pre95 f c 0=allC f:=by
 unfold pre95 allC; rw [List.take_of_length_le h]; simp
theorem flat_len (l:List (List Int)) (b:Nat) (h:∀ i,(l.getD i []).length<=b):l.flatten.length<=l.length * b:=by
 induction l with
 | nil=>simp
 | cons x l ih =>
  have h0:=h 0
  have h1:=ih (fun i=>h (i + 1))
  simp only [List.flatten_cons,List.length_append,List.length_cons,Nat.add_mul,Nat.one_mul] at *
  simp only [List.getD_cons_zero] at h0
  omega
theorem take_getD_le (l:List (List Int)) (b c:Nat) (h:∀ i,(l.getD i []).length<=b):∀ i,((l.take c).getD i []).length<=b:=by
 intro i
 rw [List.getD_eq_getElem?_getD,List.getElem?_take]
 split
 ·have:=h i; rwa [List.getD_eq_getElem?_getD] at this
 ·simp
theorem pre_len (f:Frm) (c k n b:Nat) (hn:f.columns.length<=n) (hb:∀ i,(col f i).length<=b):(pre95 f c k).length<=n * b + b:=by
 unfold pre95
 rw [List.length_append,List.length_take]
 have h1:=flat_len (f.columns.take c) b (take_getD_le _ _ _ hb)
 have h2:(f.columns.take c).length * b<=n * b:=Nat.mul_le_mul_right _ (by rw [List.length_take]; omega)
 have h3:=hb c
 omega
theorem all_len3 (f:Frm) (n b:Nat) (hn:f.columns.length<=n) (hb:∀ i,(col f i).length<=b):(allC f).length<=n * b:=by
 have h1:=flat_len f.columns b hb
 exact Nat.le_trans h1 (Nat.mul_le_mul_right _ hn)
theorem cnt_snoc (l:List Int) (x n:Int):cntL (l ++ [x]) n=cntL l n + (if x=n then 1 else 0):=by
 unfold cntL
 rw [List.filter_append,List.length_append]
 by_cases h:x=n <;> simp [h]
theorem cnt_le3 (l:List Int) (n:Int):0<=cntL l n/\cntL l n<=l.length:=by
 unfold cntL
 have:=List.length_filter_le (fun x=>decide (x=n)) l
 omega
theorem cnt_count (l:List Int) (n:Int):cntL l n=(l.count n:Int):=by
 unfold cntL
 rw [← List.countP_eq_length_filter]
 congr 1
theorem high_take (f:Frm) (l:List Int) {k:Nat} (h:k < l.length):highP f (l.take (k + 1))=hiStep f (highP f (l.take k)) (l.getD k 0):=by
 unfold highP; rw [take_succ _ 0 h,List.foldl_append]; rfl
theorem high_bound {f:Frm} (hs:Sound f) {l:List Int} (hl:goodL f l):∀ k,k<=l.length->0<=(highP f (l.take k)).lo/\(highP f (l.take k)).lo<=(highP f (l.take k)).hi/\(highP f (l.take k)).hi<=99 * k:=by
 intro k
 induction k with
 | zero=>intro _; exact ⟨Int.le_refl 0,Int.le_refl 0,Int.le_refl 0⟩
 | succ k ih =>
  intro h
  obtain ⟨h1,h2,h3⟩:=ih (by omega)
  obtain ⟨g1,g2⟩:=hl.2 k (by omega)
  have:=hs.piece (l.getD k 0).toNat (by omega)
  rw [high_take f l (by omega)]
  simp only [hiStep]
  omega
theorem high_bound' {f:Frm} (hs:Sound f) {l:List Int} (hl:goodL f l):0<=(highP f l).lo/\(highP f l).lo<=(highP f l).hi/\(highP f l).hi<=594:=by
 have h:=high_bound hs hl l.length (Nat.le_refl _)
 rw [List.take_of_length_le (Nat.le_refl _)] at h
 have:=hl.1
 omega
theorem col_good {f:Frm} (hs:Sound f) (c:Nat):goodL f (col f c):=⟨hs.colLen c,fun k hk=>hs.colIn c k hk⟩
theorem isSet_get {f:Frm} {set:List Int} (h:isSet f set=true):set.length=f.strips.length /\ ∀ k,k < set.length->0<=set.getD k 0/\set.getD k 0<=(stp f k).many:=by
 simp only [isSet,Bool.and_eq_true,decide_eq_true_eq,List.all_eq_true,List.mem_range,isSetAt,within_iff] at h
 exact h
theorem pt_succ (f:Frm) (set:List Int) (n:Nat):ptTo f set (n + 1)=ptTo f set n + set.getD n 0 * (stp f n).thick:=foldl_range_succ _ _ _
theorem pt_term {f:Frm} (hs:Sound f) {set:List Int} (h:isSet f set=true) {k:Nat} (hk:k < set.length):0<=set.getD k 0 * (stp f k).thick/\set.getD k 0 * (stp f k).thick<=120:=by
 obtain ⟨h1,h2⟩:=isSet_get h
 obtain ⟨g1,g2⟩:=h2 k hk
 have g3:=hs.strip k (by omega)
 refine ⟨Int.mul_nonneg g1 (by omega),?_⟩
 calc set.getD k 0 * (stp f k).thick<=4 * 30:=Int.mul_le_mul (by omega) (by omega) (by omega) (by omega)
  _=120:=by decide
theorem pt_bound {f:Frm} (hs:Sound f) {set:List Int} (h:isSet f set=true):∀ k,k<=set.length->0<=ptTo f set k/\ptTo f set k<=120 * k:=by
 intro k
 induction k with
 | zero=>intro _; exact ⟨Int.le_refl 0,Int.le_refl 0⟩
 | succ k ih =>
  intro hk
  have h1:=ih (by omega)
  have h2:=pt_term hs h (k:=k) (by omega)
  rw [pt_succ]
  omega
theorem srt_perm (f:Frm):(srt f).Perm (allC f):=List.mergeSort_perm _ _
theorem srt_len (f:Frm):(srt f).length=(allC f).length:=(srt_perm f).length_eq
def iotaI (n:Nat):List Int:=(List.range n).map (fun i:Nat=>(i:Int))
theorem iota_len (n:Nat):(iotaI n).length=n:=by simp [iotaI]
theorem iota_get {n k:Nat} (h:k < n):(iotaI n).getD k 0=(k:Int):=by
 rw [getD_lt _ _ (by rw [iota_len]; exact h)]; simp [iotaI]
theorem iota_count (n:Nat) (a:Int):(iotaI n).count a=if 0<=a/\a < n then 1 else 0:=by
 have hn:(iotaI n).Nodup:=by
  unfold iotaI
  rw [List.nodup_iff_pairwise_ne,List.pairwise_map]
  exact List.pairwise_lt_range.imp (fun h=>by omega)
 rw [hn.count]
 congr 1
 simp only [iotaI,List.mem_map,List.mem_range,eq_iff_iff]
 constructor
 ·rintro ⟨k,hk,rfl⟩; omega
 ·intro h; exact ⟨a.toNat,by omega,by omega⟩
theorem srt_iota {f:Frm} (h:okOrd f=true):srt f=iotaI f.pieces.length:=by
 simp only [okOrd,Bool.and_eq_true,List.all_eq_true,List.mem_range,decide_eq_true_eq] at h
 have hp:(allC f).Perm (iotaI f.pieces.length):=by
  rw [List.perm_iff_count]
  intro a
  rw [iota_count]
  split
  ·have:=h.1 a.toNat (by omega)
   rw [show ((a.toNat:Nat):Int)=a by omega,cnt_count] at this
   omega
  ·refine List.count_eq_zero.2 fun hm => ?_
   have:=h.2 a hm
   simp only [isPc,within_iff] at this
   omega
 refine List.Perm.eq_of_pairwise (le:=fun a b:Int=>a<=b) (fun a b _ _ h1 h2=>by omega) ?_ ?_ ((srt_perm f).trans hp)
 ·have:=List.pairwise_mergeSort (le:=fun a b:Int=>decide (a<=b)) (fun a b c h1 h2=>by simp only [decide_eq_true_eq] at *; omega) (fun a b=>by simp only [Bool.or_eq_true,decide_eq_true_eq]; omega) (allC f)
  exact this.imp (fun h=>by simpa using h)
 ·unfold iotaI
  rw [List.pairwise_map]
  exact List.pairwise_lt_range.imp (fun h=>by omega)
theorem ord_of_srt {f:Frm} (h1:(srt f).length=f.pieces.length) (h2:∀ j,j < (srt f).length->(srt f).getD j 0=(j:Int)):okOrd f=true:=by
 have he:srt f=iotaI f.pieces.length:=ext_getD 0 (by rw [h1,iota_len]) (fun j hj=>by rw [h2 j hj,iota_get (by omega)])
 have hc:∀ a,(allC f).count a=if 0<=a/\a < f.pieces.length then 1 else 0:=fun a=>by
  rw [← iota_count,← he]; exact ((srt_perm f).count_eq a).symm
 simp only [okOrd,Bool.and_eq_true,List.all_eq_true,List.mem_range,decide_eq_true_eq]
 refine ⟨fun i hi => ?_,fun x hx => ?_⟩
 ·rw [cnt_count,hc,if_pos (by omega)]; rfl
 ·have h3:=List.count_pos_iff.2 hx
  rw [hc] at h3
  simp only [isPc,within_iff]
  split at h3 <;> omega
theorem ord_not {f:Frm} {j:Nat} (h:(srt f).length ≠ f.pieces.length ∨ (j < (srt f).length/\(srt f).getD j 0 ≠ (j:Int))):okOrd f=false:=by
 cases e:okOrd f with
 | false=>rfl
 | true =>
  have he:=srt_iota e
  rcases h with h | ⟨h1,h2⟩
  ·exact absurd (by rw [he,iota_len]) h
  ·rw [he,iota_len] at h1
   exact absurd (by rw [he,iota_get h1]) h2
theorem check_bad {f:Frm} (h:okFrm f=false):checkF f=30:=by simp [checkF,h]
theorem check_good {f:Frm} (h:okFrm f=true):checkF f=0:=by simp [checkF,h]
theorem check_zero {f:Frm}:checkF f=0 ↔ okFrm f=true:=by unfold checkF; cases okFrm f <;> simp
theorem okS_zero (f:Frm):okS f 0=okHeadF f:=by simp [okS]
theorem okS_succ (f:Frm) (n:Nat):okS f (n + 1)=(okS f n && okStrip (stp f n)):=by
 unfold okS; rw [List.range_succ,List.all_append,← Bool.and_assoc]; simp
theorem okP_zero (f:Frm):okP f 0=okS f f.strips.length:=by simp [okP]
theorem okP_succ (f:Frm) (n:Nat):okP f (n + 1)=(okP f n && okPiece (pc f n)):=by
 unfold okP; rw [List.range_succ,List.all_append,← Bool.and_assoc]; simp
theorem all_range {α:Type} (l:List α) (d:α) (p:α->Bool):(List.range l.length).all (fun j=>p (l.getD j d))=l.all p:=by
 rw [Bool.eq_iff_iff]
 constructor
 ·intro h
  rw [List.all_eq_true] at h
  exact all_idx l d p (fun j hj=>h j (List.mem_range.2 hj))
 ·intro h
  rw [List.all_eq_true]
  intro j hj
  exact idx_all d h (List.mem_range.1 hj)
theorem okFrm_eq (f:Frm):okFrm f=(okP f f.pieces.length && okOrd f):=by
 unfold okFrm okP okS
 rw [← all_range f.strips default okStrip,← all_range f.pieces default okPiece]
 rfl
theorem okFrm_P {f:Frm} (h:okP f f.pieces.length=false):okFrm f=false:=by rw [okFrm_eq,h]; rfl
theorem okFrm_ord {f:Frm} (h:okOrd f=false):okFrm f=false:=by rw [okFrm_eq,h,Bool.and_false]
theorem okFrm_head {f:Frm} (h:okHeadF f=false):okFrm f=false:=by simp [okFrm,h]
theorem okFrm_strip {f:Frm} {x:Nat} (hx:x < f.strips.length) (h:okStrip (stp f x)=false):okFrm f=false:=by
 have:=not_all f.strips default okStrip hx h
 simp [okFrm,this]
theorem okFrm_piece {f:Frm} {x:Nat} (hx:x < f.pieces.length) (h:okPiece (pc f x)=false):okFrm f=false:=by
 have:=not_all f.pieces default okPiece hx h
 simp [okFrm,this]
theorem okFrm_cnt {f:Frm} {x:Nat} (hx:x < f.pieces.length) (h:cntL (allC f) x ≠ 1):okFrm f=false:=by
 refine okFrm_ord ?_
 unfold okOrd
 have:(List.range f.pieces.length).all (fun i=>decide (cntL (allC f) i=1))=false:=by
  rw [List.all_eq_false]; exact ⟨x,List.mem_range.2 hx,by simpa using h⟩
 rw [this]; rfl
theorem all_flat (l:List (List Int)) (p:Int->Bool):l.flatten.all p=l.all (fun x=>x.all p):=by
 induction l with
 | nil=>rfl
 | cons x l ih=>simp [List.all_append,ih]
theorem okFrm_in {f:Frm} {c:Nat} (hc:c < f.columns.length) (h:(col f c).all (isPc f)=false):okFrm f=false:=by
 refine okFrm_ord ?_
 unfold okOrd allC
 rw [all_flat,not_all f.columns [] (fun x=>x.all (isPc f)) hc h,Bool.and_false]
theorem okFrm_of {f:Frm} (h:okHeadF f=true) (h1:∀ j,j < f.strips.length->okStrip (stp f j)=true) (h2:∀ j,j < f.pieces.length->okPiece (pc f j)=true/\cntL (allC f) j=1) (h3:∀ j,j < f.columns.length->(col f j).all (isPc f)=true):okFrm f=true:=by
 have a:=all_idx f.strips default okStrip h1
 have b:=all_idx f.pieces default okPiece (fun j hj=>(h2 j hj).1)
 have c:=all_idx f.columns [] (fun x=>x.all (isPc f)) h3
 have d:(List.range f.pieces.length).all (fun i=>decide (cntL (allC f) i=1))=true:=by
  rw [List.all_eq_true]; intro i hi; simpa using (h2 i (List.mem_range.1 hi)).2
 simp only [okFrm,okOrd,allC,all_flat,h,a,b,c,Bool.and_self]
 simpa [allC] using d
theorem mem_col {f:Frm} {c k:Nat} (h:k < (col f c).length):(col f c).getD k 0 ∈ allC f:=by
 unfold allC
 rw [List.mem_flatten]
 by_cases hc:c < f.columns.length
 ·exact ⟨col f c,getD_mem _ _ hc,getD_mem _ _ h⟩
 ·have:col f c = []:=getD_ge _ _ (by omega)
  rw [this] at h; simp at h
theorem sound_of {f:Frm} (h:okFrm f=true):Sound f:=by
 have hl:(allC f).length=f.pieces.length:=by
  rw [okFrm_eq,Bool.and_eq_true] at h
  rw [← srt_len,srt_iota h.2,iota_len]
 simp only [okFrm,Bool.and_eq_true,okHeadF,within_iff,decide_eq_true_eq,okOrd] at h
 obtain ⟨⟨⟨⟨⟨⟨⟨h1,h2⟩,h3⟩,h4⟩,h5⟩,h6⟩,h7⟩,h8,h9⟩:=h
 refine ⟨h1,h2,by omega,by omega,by omega,fun i hi => ?_,fun i hi => ?_,fun i => ?_,fun i k hk => ?_⟩
 ·have:=idx_all default h6 hi
  simp only [okStrip,Bool.and_eq_true,within_iff] at this
  exact ⟨this.1.1,this.1.2,this.2.1,this.2.2⟩
 ·have:=idx_all default h7 hi
  simp only [okPiece,Bool.and_eq_true,within_iff] at this
  exact ⟨this.1.2.1,this.1.2.2,this.1.1.2,this.2.1,this.2.2⟩
 ·by_cases hi:i < f.columns.length
  ·have:(col f i).length<=(allC f).length:=by
    unfold allC
    have hm:col f i ∈ f.columns:=getD_mem _ _ hi
    exact (List.sublist_flatten_of_mem hm).length_le
   omega
  ·have:col f i = []:=getD_ge _ _ (by omega)
   rw [this]; simp
 ·rw [List.all_eq_true] at h9
  have:=h9 _ (mem_col hk)
  simp only [isPc,within_iff] at this
  omega
theorem okFr_open {f:Frm} (h:okFrm f=true):openFr f true=f:=by simp [openFr,h]
theorem prod_succ (f:Frm) (n:Nat):prodF f (n + 1)=prodF f n * ((stp f n).many + 1):=foldl_range_succ _ _ _
theorem prod_bound {f:Frm} (hs:Sound f):∀ n,n<=f.strips.length->1<=prodF f n/\prodF f n<=5 ^ n:=by
 intro n
 induction n with
 | zero=>intro _; exact ⟨Int.le_refl 1,Int.le_refl 1⟩
 | succ n ih =>
  intro h
  obtain ⟨h1,h2⟩:=ih (by omega)
  have h3:=hs.strip n (by omega)
  rw [prod_succ,Int.pow_succ]
  refine ⟨?_,Int.mul_le_mul h2 (by omega) (by omega) (by omega)⟩
  calc (1:Int)=1 * 1:=rfl
   _<=prodF f n * ((stp f n).many + 1):=Int.mul_le_mul h1 (by omega) (by omega) (by omega)
theorem prod_in {f:Frm} (hs:Sound f) {n:Nat} (h:n < f.strips.length):inI (prodF f n * ((stp f n).many + 1)):=by
 rw [← prod_succ]
 obtain ⟨h1,h2⟩:=prod_bound hs (n + 1) (by omega)
 have h3:=hs.strips
 have h4:(5:Int) ^ (n + 1)<=125:=by
  have:n=0 ∨ n=1 ∨ n=2:=by omega
  rcases this with rfl | rfl | rfl <;> decide
 exact ⟨by omega,by omega⟩
end Go.Sh
