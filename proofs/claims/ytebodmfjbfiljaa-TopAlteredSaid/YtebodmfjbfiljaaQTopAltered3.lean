/- Part 3 of the proof: own library, plain forms and walks. -/
import Derived.Test.YtebodmfjbfiljaaQTopAltered2
import Derived.Shelf.Sort.Plain
import Derived.Shelf.Slices.In.SortNone
import Derived.Test.YtebodmfjbfiljaaProg
import Derived.Sort.Grow
import Derived.Lib.SlicesCompact
set_option linter.all false
set_option linter.deprecated false
namespace Go.Ab
open Go Go.RowKit
theorem rnK_nil (v:AV):rnK [] v=v:=by cases v <;> rfl
theorem rnC_nil (v:AV):rnC [] v=v:=by
 cases v with
 | clo f cs=>show AV.clo f (cs.map (rnK []))=_; rw [List.map_congr_left (fun v _=>rnK_nil v),List.map_id']
 | _=>rfl
theorem rnCs_nil (cs:List AV):cs.map (rnC [])=cs:=by rw [List.map_congr_left (fun v _=>rnC_nil v),List.map_id']
theorem rnV_nil (v:AV):rnV [] v=v:=by
 cases v with
 | agg cs=>simp only [rnV,rnCs_nil]
 | clo f cs=>simp only [rnV,rnCs_nil]
 | _=>first | rfl | (simp only [rnV,rnC_nil])
theorem rnB_nil (ob:OB):rnB [] ob=ob:=by
 cases ob with
 | cells t cs=>simp only [rnB,rnCs_nil]
 | vecx t sz n f j fj=>simp only [rnB,rnCs_nil]
 | _=>rfl
def RndK (C:Ctx) (nt:Nat) (hout:List (Nat × OB)):AX->ASt->Prop
 | .normal,st => ∃ st2,Ent C nt st st2/\hoIn st2.hp hout
 | _,_=>False
def AsgK (P:Program) (N nt:Nat) (body:Code) (hout:List (Nat × OB)):AX->ASt->Prop
 | .normal,st => ∀ C:Ctx,C.P=P->(∀ j,N<=j->C.E0.blk j=none/\C.E0.hdr j=none)->SWP C nt body (RndK C nt hout) st
 | _,_=>False
theorem look_all {p:AV->Bool} (hp:p .any=true):∀ {tm:List (Nat × AV)},tm.all (fun q=>p q.2)=true -> ∀ t,p (look tm t)=true:=by
 intro tm
 induction tm with
 | nil=>intro _ t; exact hp
 | cons q r ih =>
  intro h t
  simp only [List.all_cons,Bool.and_eq_true] at h
  simp only [look]
  split
  ·exact h.1
  ·exact ih h.2 t
def rndOK (s:CallSpec) (tm:List (Nat × AV)) (N m:Nat):Bool :=
 noDup (s.hin.map (·.1)) && tm.all (fun p=>kV (s.hin.map (·.1)) p.2) && s.hin.all (fun p=>kB (s.hin.map (·.1)) p.2 && decide (p.1 < N)) && s.hout.all (fun p=>kB (s.hout.map (·.1)) p.2) &&
 (s.args.all (kV (s.hin.map (·.1))) && Nat.beq s.args.length m) && (match s.res with | .lit (.bool true)=>true | _=>false)
def setAll (ps:List Tmp) (vs:List Value) (t:Array Value):Array Value:=(ps.zip vs).foldl (fun t q=>t.setIfInBounds q.1 q.2) t
theorem setAll_size:∀ (ps:List Tmp) (vs:List Value) (t:Array Value),(setAll ps vs t).size=t.size
 | [],_,_=>rfl
 | _ :: _,[],_=>rfl
 | p :: ps,v :: vs,t=>(setAll_size ps vs (t.setIfInBounds p v)).trans (by simp)
theorem look_cons (p:Nat) (A:AV) (l:List (Nat × AV)) (t:Nat):look ((p,A) :: l) t=if p=t then A else look l t:=rfl
theorem look_swap {p:Nat} {A:AV} {tm:List (Nat × AV)}:∀ {ps:List Tmp} {avs:List AV},p ∉ ps -> ∀ t,look ((p,A) :: (ps.zip avs ++ tm)) t=look (ps.zip avs ++ (p,A) :: tm) t
 | [],_,_,_=>rfl
 | _ :: _,[],_,_=>rfl
 | q :: ps,B :: avs,h,t=>by
  simp only [List.mem_cons,not_or] at h
  show look ((p,A) :: (q,B) :: (ps.zip avs ++ tm)) t=look ((q,B) :: (ps.zip avs ++ (p,A) :: tm)) t
  have ih:=look_swap (A:=A) (tm:=tm) (avs:=avs) h.2 t
  rw [look_cons q B (ps.zip avs ++ (p,A) :: tm),← ih,look_cons,look_cons,look_cons]
  by_cases e1:p=t
  ·rw [if_pos e1,if_neg (fun e2=>h.1 (e1.trans e2.symm)),if_pos e1]
  ·rw [if_neg e1,if_neg e1]
theorem setAll_rel {E:Env}:∀ {ps:List Tmp} {avs:List AV} {vs:List Value} {tm:List (Nat × AV)} {t:Array Value},avs.length=ps.length->vs.length=ps.length->ps.Nodup->(∀ p ∈ ps,p < t.size) →
  (∀ k,Rel E true (avs.getD k .any) (vs.getD k undef))->(∀ k,Rel E true (look tm k) (t.getD k undef)) -> ∀ k,Rel E true (look (ps.zip avs ++ tm) k) ((setAll ps vs t).getD k undef)
 | [],_,_,_,_,_,_,_,_,_,h=>h
 | p :: ps,[],_,_,_,h,_,_,_,_,_=>by simp at h
 | p :: ps,_ :: _,[],_,_,_,h,_,_,_,_=>by simp at h
 | p :: ps,A :: avs,v :: vs,tm,t,h1,h2,h3,h4,h5,h6=>by
  intro k
  have h7:=List.nodup_cons.1 h3
  show Rel E true (look ((p,A) :: (ps.zip avs ++ tm)) k) ((setAll ps vs (t.setIfInBounds p v)).getD k undef)
  rw [look_swap h7.1]
  refine setAll_rel (by simpa using h1) (by simpa using h2) h7.2 (fun q hq=>by simpa using h4 q (List.mem_cons_of_mem _ hq)) (fun j=>h5 (j + 1)) (fun j => ?_) k
  rw [look_cons]
  by_cases e:p=j
  ·subst e
   rw [if_pos rfl]
   have:(t.setIfInBounds p v).getD p undef=v:=by simp [Array.getD_eq_getD_getElem?,h4 p (List.mem_cons_self ..)]
   rw [this]; exact h5 0
  ·rw [if_neg e]
   have:(t.setIfInBounds p v).getD j undef=t.getD j undef:=by simp [Array.getD_eq_getD_getElem?,Array.getElem?_setIfInBounds_ne e]
   rw [this]; exact h6 j
theorem setAll_eq (ps:List Tmp) (vs:List Value) (t:Array Value):(ps.toArray.zip vs.toArray).foldl (fun t (p,v)=>t.setIfInBounds p v) t=setAll ps vs t:=by
 simp [setAll]
theorem round_io {P:Program} {E1:Env} {nt l:Nat} {ps:List Tmp} {rec:Loop} {assign body:Code} {a:Act} {tm:List (Nat × AV)} {s:CallSpec} (N:Nat) (hl:E1.M l=some (.loop rec)) (hrs:rec.state = .ready) (hrp:rec.pending=none) (hrt:rec.tmps=a.tmps) (hrps:rec.params=ps.toArray)
  (hra:rec.assign=assign) (hrb:rec.body=body) (hsz:a.tmps.size=nt) (hps:∀ p ∈ ps,p < nt) (hnd:ps.Nodup) (htm:∀ t,Rel E1 true (look tm t) (a.tmps.getD t undef)) (hok:rndOK s tm N ps.length=true)
  (hbody:s.pre -> ∀ C:Ctx,C.P=P->(∀ j,N<=j->C.E0.blk j=none/\C.E0.hdr j=none)->SWP C nt assign (AsgK P N nt body s.hout) ⟨ps.zip s.args ++ tm,s.hin,N⟩) :
  FnIO P E1 (.func (.yield l) #[] #[]) s:=by
 intro hpre E2 w vs le hh hlen hrel hfresh
 simp only [rndOK,Bool.and_eq_true,List.all_eq_true,decide_eq_true_eq] at hok
 obtain ⟨⟨⟨⟨⟨o1,o2⟩,o3⟩,o4⟩,o5⟩,o6⟩:=hok
 obtain ⟨o5,o5l⟩:=o5
 have o5l:s.args.length=ps.length:=Nat.eq_of_beq_eq_true o5l
 have hres:s.res = .lit (.bool true):=by
  split at o6
  ·assumption
  ·cases o6
 have hl2:E2.M l=some (.loop rec):=le.M _ _ hl
 have hlw:w.heap[l]? = some (.loop rec):=hh.mem _ _ hl2
 have hlt:l < w.heap.size:=(Array.getElem?_eq_some_iff.1 hlw).1
 have hy:=run_yield (P:=P) (args:=vs.toArray) hlw (by rw [hrps]; simp [hlen,o5l])
 rw [hrps,hrt,hra,hrb,setAll_eq] at hy
 have hy':(Instr.yield l vs.toArray).run P w = .ok (.round l rec.fn (setAll ps vs a.tmps) assign body) w:=hy
 refine ⟨l,rfl,rec.fn,setAll ps vs a.tmps,assign,body,hy',roundIn_of_wpIn trivial ?_⟩
 -- names: of what is handed in alone
 let ks:=s.hin.map (·.1)
 let E0:Env:={ E2 with blk:=fun j=>if j ∈ ks then E2.blk j else none,hdr:=fun j=>if j ∈ ks then E2.hdr j else none }
 have hs0:∀ c,c ∈ ks->E2.blk (renI [] c)=E0.blk c/\E2.hdr (renI [] c)=E0.hdr c:=fun c hc=>⟨(if_pos hc).symm,(if_pos hc).symm⟩
 have hmem:∀ {i:Nat} {ob:OB},Heap.of s.hin i=some ob->i ∈ ks:=fun h=>List.mem_map_of_mem (f:=fun x:Nat × OB=>x.1) (Heap.of_mem h)
 let av:=(calleeCtx P E2 w s.hin).avail
 let CA:Ctx:=⟨P,w,E0,av,fun _ h => .inl h,some l,false⟩
 have hokA:HeapOK CA E0 (Heap.of s.hin) w:=by
  refine ⟨rfl,rfl,rfl,Nat.le_refl _,fun _ _=>rfl,fun b o h=>hh.mem b o h,Env.le.refl _,fun b o h => .inl h,fun i ob h => ?_,fun i j x hij hi hj hix hjx => ?_⟩
  ·have ho:=hh.own i ob h
   refine rnB_inv (C:=calleeCtx P E2 w s.hin) (C':=CA) (E:=E0) (F:=E2) (l:=[]) rfl rfl hs0 (fun _ h=>h) (hmem h) (o3 _ (Heap.of_mem h)).1 ?_
   rw [rnB_nil]; exact ho
  ·have get:∀ i,Heap.of s.hin i ≠ none->i ∈ ks:=fun i h=>by
    cases e:Heap.of s.hin i with
    | none=>exact absurd e h
    | some ob=>exact hmem e
   exact hh.sep i j x hij hi hj (by rw [← hix]; exact (hs0 i (get i hi)).1) (by rw [← hjx]; exact (hs0 j (get j hj)).1)
 have hnone:∀ j,N<=j->E0.blk j=none/\E0.hdr j=none:=by
  intro j hj
  have:¬ j ∈ ks:=fun h=>by
   obtain ⟨q,hq,rfl⟩:=List.mem_map.1 h
   have:=(o3 q hq).2; omega
  exact ⟨if_neg this,if_neg this⟩
 have htmA:∀ t,Rel E0 true (look (ps.zip s.args ++ tm) t) ((setAll ps vs a.tmps).getD t undef):=by
  refine setAll_rel o5l (hlen.trans o5l) hnd (fun p hp=>by rw [hsz]; exact hps p hp) (fun k => ?_) (fun t => ?_)
  ·refine rnV_inv (E:=E0) (F:=E2) (l:=[]) rfl rfl hs0 ?_ ?_
   ·rcases Nat.lt_or_ge k s.args.length with hk | hk
    ·have:s.args.getD k .any=s.args[k]:=by simp [List.getD,List.getElem?_eq_getElem hk]
     rw [this]; exact o5 _ (List.getElem_mem hk)
    ·rw [List.getD_eq_getElem?_getD,List.getElem?_eq_none hk]; rfl
   ·rw [rnV_nil]; exact hrel k
  ·refine rnV_inv (E:=E0) (F:=E2) (l:=[]) rfl rfl hs0 (look_all (p:=kV ks) rfl (by rw [List.all_eq_true]; exact o2) t) ?_
   rw [rnV_nil]; exact (htm t).mono le
 have hsat:Sat CA E0 nt ⟨ps.zip s.args ++ tm,s.hin,N⟩ w { tmps:=setAll ps vs a.tmps,defers:=[] }:=⟨⟨hokA,htmA,⟨fun _=>rfl,trivial⟩,by rw [setAll_size]; exact hsz⟩,fun j hj=>hnone j hj⟩
 have hsw:=hbody hpre CA rfl hnone E0 w _ hsat
 refine wpIn_mono (F:=Fence.wide.inRound l) hsw ?_
 rintro e a1 w1 ⟨x,E3,st3,rfl,hs3,hk3⟩
 cases x with
 | ret=>exact hk3.elim
 | exit id=>exact hk3.elim
 | normal =>
  have hE03:=hs3.ok.heap.le
  have hl3:E3.M l=some (.loop rec):=hE03.M _ _ hl2
  have hlw1:w1.heap[l]? = some (.loop rec):=hs3.ok.heap.mem _ _ hl3
  refine ⟨_,run_beginRound hlw1 hrs,?_⟩
  -- the body's context: the record is busy
  let busy:Obj := .loop { rec with state := .busy }
  let EB0:Env:={ E0 with M:=fun b=>if b=l then some busy else E0.M b }
  let EB:Env:={ E3 with M:=fun b=>if b=l then some busy else E3.M b }
  let CB:Ctx:=⟨P,w,EB0,fun b=>av b ∨ b=l,fun _ h => .inl (.inl h),some l,false⟩
  have hleB:EB0.le EB:=⟨fun b o hb=>by
    replace hb:(if b=l then some busy else E0.M b)=some o:=hb
    show (if b=l then some busy else E3.M b)=some o
    split at hb
    ·rw [if_pos ‹_›]; exact hb
    ·rw [if_neg ‹_›]; exact hE03.M _ _ hb,hE03.blk,hE03.hdr,hE03.fns⟩
  have hokB:HeapOK CB EB (Heap.of st3.hp) (w1.putObj l busy):=by
   refine hs3.ok.heap.putL (C2:=CB) (m:=some busy) hl3 rfl (.inr rfl) rfl rfl rfl rfl rfl rfl (fun _ h => .inl h) (fun b hb => ?_) hleB (fun b o hb => ?_)
   ·have hne:b ≠ l:=fun e=>hb (.inr e)
    rw [World.putObj_heap_other hne]
    exact hs3.ok.heap.pres b (fun h=>hb (.inl h))
   ·replace hb:(if b=l then some busy else E3.M b)=some o:=hb
    split at hb
    ·rename_i e; exact .inr (.inr e)
    ·rename_i e
     rcases hs3.ok.heap.ext b o hb with h | h
     ·exact .inl (by show (if b=l then some busy else E0.M b)=some o; rw [if_neg e]; exact h)
     ·exact .inr (.inl h)
  have hleC:E3.leC EB:=⟨fun b o hb hc=>by
    show (if b=l then some busy else E3.M b)=some o
    rw [if_neg (fun e=>by rw [e,hl3] at hb; cases hb; cases hc)]; exact hb,fun _ _ h=>h,fun _ _ h=>h,rfl⟩
  have hsatB:Sat CB EB nt st3 (w1.putObj l busy) a1:=⟨⟨hokB,fun t=>(hs3.ok.tm t).monoC hleC,⟨fun _=>hs3.ok.defers.1 rfl,by rw [hs3.ok.defers.1 rfl]; trivial⟩,hs3.ok.size⟩,hs3.fresh⟩
  have hswB:=hk3 CB rfl hnone EB _ a1 hsatB
  refine wpIn_mono (F:=Fence.wide.inRound l) hswB ?_
  rintro e a4 w4 ⟨x,E4,st4,rfl,hs4,hk4⟩
  cases x with
  | ret=>exact hk4.elim
  | exit id=>exact hk4.elim
  | normal =>
   obtain ⟨st5,hent,hho⟩:=hk4
   obtain ⟨E5,hs5⟩:=hent E4 w4 a4 hs4
   have hle5:=hs5.ok.heap.le
   have hl5:E5.M l=some busy:=hle5.M l busy (if_pos rfl)
   have hlw4:w4.heap[l]? = some busy:=hs5.ok.heap.mem _ _ hl5
   have hend:=run_endRound (P:=P) none hlw4
   have hback:({ { rec with state:=LoopState.busy } with state:=(if (none:Option Code).isNone=true then LoopState.ready else LoopState.done),pending:=none }:Loop)=rec:=by
    cases rec; simp only at hrs hrp; subst hrs; subst hrp; rfl
   rw [hback] at hend
   refine ⟨_,_,hend,?_⟩
   -- back to the names of the call
   let F0:Env:={ E5 with M:=fun b=>if b=l then some (.loop rec) else E5.M b }
   let C3:Ctx:=⟨P,w,E0,av,fun _ h => .inl h,some l,false⟩
   have hle0:E0.le F0:=⟨fun b o hb=>by
     show (if b=l then some (.loop rec) else E5.M b)=some o
     by_cases e:b=l
     ·rw [if_pos e]
      have:E0.M b=some (.loop rec):=by rw [e]; exact hl2
      rw [← this]; exact hb
     ·rw [if_neg e]
      exact hle5.M b o (by show (if b=l then some busy else E0.M b)=some o; rw [if_neg e]; exact hb),hle5.blk,hle5.hdr,hle5.fns⟩
   have hok6:HeapOK C3 F0 (Heap.of st5.hp) (w4.putObj l (.loop rec)):=by
    have hswap:=hs5.ok.heap.putL (C2:={ CB with E0:={ EB0 with M:=fun b=>if b=l then some (.loop rec) else E0.M b } }) (E2:=F0) (o' := .loop rec) (m:=some (.loop rec)) hl5 rfl (.inr rfl) rfl rfl rfl rfl rfl rfl (fun _ h=>h) (fun b hb => ?_) ⟨fun b o hb => ?_,hle0.blk,hle0.hdr,hle0.fns⟩ (fun b o hb => ?_)
    ·refine ⟨hswap.os,hswap.tape,hswap.output,hswap.size,fun b hb => ?_,hswap.mem,hle0,fun b o hb => ?_,fun i ob hi => ?_,hswap.sep⟩
     ·by_cases e:b=l
      ·rw [e,World.putObj_heap_same (Array.getElem?_eq_some_iff.1 hlw4).1]; exact hlw.symm
      ·exact hswap.pres b (fun h=>h.elim hb e)
     ·replace hb:(if b=l then some (.loop rec) else E5.M b)=some o:=hb
      split at hb
      ·rename_i e; exact .inl (by rw [e]; show E2.M l=some o; rw [hl2]; exact hb)
      ·rename_i e
       rcases hs5.ok.heap.ext b o hb with h | h
       ·replace h:(if b=l then some busy else E0.M b)=some o:=h
        rw [if_neg e] at h; exact .inl h
       ·exact .inr (h.resolve_right e)
     ·have ho:=hswap.own i ob hi
      -- no block of the call's own is the record
      refine ho.moveAv (fun k hk => ?_)
      rcases hk with ⟨hav,hM⟩
      refine hav.resolve_right (fun e => ?_)
      rw [e] at hM
      replace hM:(if l=l then some (.loop rec) else E5.M l)=(none:Option Obj):=hM
      rw [if_pos rfl] at hM; cases hM
    ·have hne:b ≠ l:=fun e=>hb (.inr e)
     rw [World.putObj_heap_other hne]
     exact hs5.ok.heap.pres b hb
    ·replace hb:(if b=l then some (.loop rec) else E0.M b)=some o:=hb
     by_cases e:b=l
     ·rw [if_pos e] at hb; show (if b=l then some (.loop rec) else E5.M b)=some o; rw [if_pos e]; exact hb
     ·rw [if_neg e] at hb; exact hle0.M b o hb
    ·replace hb:(if b=l then some (.loop rec) else E5.M b)=some o:=hb
     split at hb
     ·rename_i e; exact .inr (.inr e)
     ·rename_i e
      rcases hs5.ok.heap.ext b o hb with h | h
      ·replace h:(if b=l then some busy else E0.M b)=some o:=h
       rw [if_neg e] at h
       exact .inl (by show (if b=l then some (.loop rec) else E0.M b)=some o; rw [if_neg e]; exact h)
      ·exact .inr h
   let ko:=s.hout.map (·.1)
   let F:Env:={ F0 with blk:=fun j=>if j ∈ ko then F0.blk j else E2.blk j,hdr:=fun j=>if j ∈ ko then F0.hdr j else E2.hdr j }
   have hren:Rn [] ko F0 F:=⟨fun b o h=>h,rfl,fun c hc=>⟨if_pos hc,if_pos hc⟩⟩
   have hin0:∀ j k,E2.blk j=some k->j ∈ ko->F0.blk j=some k:=by
    intro j k hj hjo
    by_cases hi:j ∈ ks
    ·exact hle0.blk j k (by show (if j ∈ ks then E2.blk j else none)=some k; rw [if_pos hi]; exact hj)
    ·obtain ⟨q,hq,rfl⟩:=List.mem_map.1 hjo
     have:=(hfresh q hq (fun r hr e=>hi (by rw [← e]; exact List.mem_map_of_mem (f:=fun x:Nat × OB=>x.1) hr))).1
     rw [this] at hj; cases hj
   have hin1:∀ j u,E2.hdr j=some u->j ∈ ko->F0.hdr j=some u:=by
    intro j u hj hjo
    by_cases hi:j ∈ ks
    ·exact hle0.hdr j u (by show (if j ∈ ks then E2.hdr j else none)=some u; rw [if_pos hi]; exact hj)
    ·obtain ⟨q,hq,rfl⟩:=List.mem_map.1 hjo
     have:=(hfresh q hq (fun r hr e=>hi (by rw [← e]; exact List.mem_map_of_mem (f:=fun x:Nat × OB=>x.1) hr))).2
     rw [this] at hj; cases hj
   have lF:E2.le F:=by
    refine ⟨fun b o hb=>hle0.M b o hb,fun j k hj => ?_,fun j u hj => ?_,hle0.fns⟩
    ·show (if j ∈ ko then F0.blk j else E2.blk j)=some k
     split
     ·exact hin0 j k hj ‹_›
     ·exact hj
    ·show (if j ∈ ko then F0.hdr j else E2.hdr j)=some u
     split
     ·exact hin1 j u hj ‹_›
     ·exact hj
   refine ⟨.bool true,F,rfl,?_,by rw [hres]; exact .lit _,fun j hj => ?_⟩
   ·refine ⟨hok6.os,hok6.tape,hok6.output,hok6.size,fun x hx=>hok6.pres x hx,fun x o h=>hok6.mem x o h,lF,fun x o h=>hok6.ext x o h,fun i ob hi => ?_,fun i j y hij hi hj hiy hjy => ?_⟩
    ·have hm:=Heap.of_mem hi
     have hc:i ∈ ko:=List.mem_map_of_mem (f:=fun x:Nat × OB=>x.1) hm
     have:=rnB_own (C:=C3) (C':=calleeCtx P E2 w s.hin) hren (fun _ h=>h) (fun _ h=>h) hc (o4 _ hm) (hok6.own i ob (hoIn_mem hho _ hm))
     rw [rnB_nil] at this
     exact this
    ·have get:∀ i,Heap.of s.hout i ≠ none->F.blk i=some y->Heap.of st5.hp i ≠ none/\F0.blk i=some y:=by
      intro i hi hiy
      cases e:Heap.of s.hout i with
      | none=>exact absurd e hi
      | some ob =>
       have hm:=Heap.of_mem e
       have hc:i ∈ ko:=List.mem_map_of_mem (f:=fun x:Nat × OB=>x.1) hm
       refine ⟨by rw [hoIn_mem hho _ hm]; simp,?_⟩
       replace hiy:(if i ∈ ko then F0.blk i else E2.blk i)=some y:=hiy
       rw [if_pos hc] at hiy; exact hiy
     obtain ⟨n1,k1⟩:=get i hi hiy
     obtain ⟨n2,k2⟩:=get j hj hjy
     exact hok6.sep i j y hij n1 n2 k1 k2
   ·have hno:j ∉ ko:=fun h=>by
     obtain ⟨q,hq,e⟩:=List.mem_map.1 h
     exact hj q hq e
    exact ⟨if_neg hno,if_neg hno⟩
def RngK (C:Ctx) (nt:Nat) (hp:List (Nat × OB)) (nx:Nat):AX->ASt->Prop
 | .exit _,_=>False
 | _,st => ∃ st2,Ent C nt st st2/\hoIn st2.hp hp/\st2.nx<=nx
theorem old_cell {w:World} {o1 o2:Obj} {k:Nat} (h:k < w.heap.size):((w.alloc o1).alloc o2).heap[k]? = w.heap[k]? := by
 rw [(World.grownBy_alloc (w.alloc o1) o2 none).block k (by simp; omega) (by simp)]
 exact (World.grownBy_alloc w o1 none).block k h (by simp)
theorem swp_range0 {C:Ctx} {nt:Nat} {K:AX->ASt->Prop} {st:ASt} {g:Operand} {ps:List Tmp} {assign body:Code} {gf:FuncId} {fa ca:List AV} {fn:Func} {c:Code}
  (hp2:List (Nat × OB)) (nx2 kf N:Nat) (kt:List Nat) (R:CallSpec->Prop) (hro:C.ro=none) (hdf:C.df=true) (hg:∀ (E':Env) (u:Value),Rel E' true (opAV (look st.tm) g) u -> ∃ fs us,u = .func (.func gf) (List.toArray fs) (List.toArray us)/\fs.length=fa.length/\us.length=ca.length/\(∀ k,Rel E' true (fa.getD k .any) (fs.getD k undef)) /\ ∀ k,Rel E' true (ca.getD k .any) (us.getD k undef)) (hf:C.P.funcs[gf]? = some fn) (hb:fn.body=some c) (hrs:fn.results = #[]) (hcall:Callable C.P gf)
  (hn:fa.length + ca.length + 1<=fn.ntmps) (hps:∀ p ∈ ps,p < nt) (hnd:ps.Nodup) (hno:(noFnL fa && noFnL ca && (kt.all fun t=>noFn (look st.tm t)) && (st.hp.all fun q=>obNoFn q.2) && hp2.all fun q=>obNoFn q.2)=true)
  (hR:∀ s,R s->rndOK s (kt.map fun t=>(t,look st.tm t)) N ps.length=true)
  (hit:∀ C':Ctx,C'.P=C.P->(∀ s,R s -> ∀ u,C'.E0.fns kf u->FnIO C.P C'.E0 u s)->(∀ j,st.nx<=j->C'.E0.blk j=none/\C'.E0.hdr j=none)->SWP C' fn.ntmps c (RngK C' fn.ntmps hp2 nx2) ⟨argsTm (fa ++ .fn kf :: ca) 0,st.hp,st.nx⟩)
  (hbody:∀ s,R s->s.pre -> ∀ C':Ctx,C'.P=C.P->(∀ j,N<=j->C'.E0.blk j=none/\C'.E0.hdr j=none)->SWP C' nt assign (AsgK C.P N nt body s.hout) ⟨ps.zip s.args ++ (kt.map fun t=>(t,look st.tm t)),s.hin,N⟩)
  (hk:K .normal ⟨st.tm,hp2,nx2⟩):SWP C nt (.rangeFunc g ps.toArray assign body) K st:=by
 intro E w a hs
 simp only [Bool.and_eq_true] at hno
 obtain ⟨⟨⟨⟨hnof,hnoc⟩,hnot⟩,hnoh⟩,hnoh2⟩:=hno
 rw [List.all_eq_true] at hnot hnoh hnoh2
 obtain ⟨fs,us,hge,hfl,hcl,hfr,hcr⟩:=hg E _ (opAV_rel hs.ok.tm g)
 refine wpIn_rangeFunc ?_
 intro fnid _
 have hh:=hs.ok.heap
 let D:=w.heap.size
 let rec':Loop:={ state := .ready,pending:=none,fn:=fnid,tmps:=a.tmps,params:=ps.toArray,assign,body,defers:=D }
 let W1:World:=(w.alloc (.deferred (some []))).alloc (.loop rec')
 let yv:Value := .func (.yield (D + 1)) #[] #[]
 let E':Env:={ E with M:=fun b=>if b=D then some (.deferred (some [])) else if b=D + 1 then some (.loop rec') else E.M b }
 let E1:Env:=E'.setFns (fun k u=>k=kf/\u=yv)
 let C1:Ctx:=⟨C.P,C.w0,E1,C.avail,C.hA,none,false⟩
 have hMlt:∀ b o,E.M b=some o->b < D:=fun b o h=>(Array.getElem?_eq_some_iff.1 (hh.mem b o h)).1
 have hE'M:∀ b,b < D->E'.M b=E.M b:=fun b hb=>by
  show (if b=D then some (.deferred (some [])) else if b=D + 1 then some (.loop rec') else E.M b)=E.M b
  rw [if_neg (by omega),if_neg (by omega)]
 have hMD:E'.M D=some (.deferred (some [])):=if_pos rfl
 have hML:E'.M (D + 1)=some (.loop rec'):=by
  show (if D + 1=D then some (.deferred (some [])) else if D + 1=D + 1 then some (.loop rec') else E.M (D + 1))=_
  rw [if_neg (by omega),if_pos rfl]
 have leE:E.le E':=⟨fun b o h=>by rw [hE'M b (hMlt b o h)]; exact h,fun _ _ h=>h,fun _ _ h=>h,rfl⟩
 have hWD:W1.heap[D]? = some (.deferred (some [])):=(World.grownBy_alloc (w.alloc _) _ none).block D (by simp [D]) (by simp) |>.trans (World.alloc_heap_new w _)
 have hWL:W1.heap[D + 1]? = some (.loop rec'):=by
  have:=World.alloc_heap_new (w.alloc (.deferred (some []))) (.loop rec')
  rwa [World.size_alloc] at this
 have hok1:HeapOK C1 E1 (Heap.of st.hp) W1:=by
  refine ⟨hh.os,hh.tape,hh.output,?_,fun b hb => ?_,fun b o hb => ?_,Env.le.refl _,fun b o hb => .inl hb,fun i ob hi => ?_,hh.sep⟩
  ·show C.w0.heap.size<=((w.alloc _).alloc _).heap.size
   simp only [World.size_alloc]
   exact Nat.le_trans hh.size (by omega)
  ·have hlt:b < w.heap.size:=Nat.lt_of_not_le fun hle=>hb (C.hA b (Nat.le_trans hh.size hle))
   rw [old_cell hlt]; exact hh.pres b hb
  ·replace hb:(if b=D then some (.deferred (some [])) else if b=D + 1 then some (.loop rec') else E.M b)=some o:=hb
   split at hb
   ·rename_i e; rw [e,hWD]; exact hb
   ·split at hb
    ·rename_i e; rw [e,hWL]; exact hb
    ·rw [old_cell (hMlt b o hb)]; exact hh.mem b o hb
  ·have hnf:=hnoh _ (Heap.of_mem hi)
   have ho:=hh.own i ob hi
   refine ho.move (C':=C1) (E':=E1) (.inr hnf) (fun _ _ h=>h) (fun b o h=>leE.M b o h) rfl (fun _ h=>h) (fun k hk=>old_cell (OwnOB.blk_lt hh.mem ho hk)) (fun k hk hm => ?_) (fun o cs us hr=>⟨⟨fun t e => ?_,fun t sz n f j e => ?_⟩,fun e => ?_⟩)
   ·show E'.M k=none
    rw [hE'M k (OwnOB.blk_lt hh.mem ho hk)]; exact hm
   ·have e':ob = .cells t cs:=e
    rw [e'] at hnf
    exact (hr.mono leE).setFns _ (fun _=>hnf)
   ·have e':ob = .vecx t sz n f j cs:=e
    rw [e'] at hnf
    exact (hr.mono leE).setFns _ (fun _=>hnf)
   ·exact (hr.mono leE).setFns _ (fun e'=>by rw [e] at e'; cases e')
 let all:List Value:=fs ++ yv :: us
 have htm1:∀ t,Rel E1 true (look (argsTm (fa ++ .fn kf :: ca) 0) t) ((all.toArray ++ Array.replicate (fn.ntmps - all.toArray.size) undef).getD t undef):=by
  intro t
  rw [look_args,if_pos (Nat.zero_le _),Nat.sub_zero]
  rcases Nat.lt_or_ge t all.length with ht | ht
  ·have h1:(all.toArray ++ Array.replicate (fn.ntmps - all.toArray.size) undef).getD t undef=all.getD t undef:=by
    simp only [Array.getD_eq_getD_getElem?,List.getD_eq_getElem?_getD]
    rw [Array.getElem?_append_left (by simpa using ht)]
    simp
   rw [h1]
   show Rel E1 true ((fa ++ .fn kf :: ca).getD t .any) ((fs ++ yv :: us).getD t undef)
   rw [getD_append_av,getD_append_value,hfl]
   split
   ·exact ((hfr t).mono leE).setFns _ (fun _=>noFnL_get hnof t)
   ·cases t - fa.length with
    | zero=>exact .fn kf ⟨rfl,rfl⟩
    | succ t=>exact ((hcr t).mono leE).setFns _ (fun _=>noFnL_get hnoc t)
  ·rw [List.getD_eq_getElem?_getD,List.getElem?_eq_none (by simp only [List.length_append,List.length_cons]; simp only [all,List.length_append,List.length_cons] at ht; omega)]
   exact .any _
 have hsat1:Sat C1 E1 fn.ntmps ⟨argsTm (fa ++ .fn kf :: ca) 0,st.hp,st.nx⟩ W1 { tmps:=all.toArray ++ Array.replicate (fn.ntmps - all.toArray.size) undef,defers:=[] } :=
  ⟨⟨hok1,htm1,⟨fun _=>rfl,trivial⟩,by simp [all,hcl,hfl]; omega⟩,hs.fresh⟩
 have hfn:∀ s,R s -> ∀ u,C1.E0.fns kf u->FnIO C.P C1.E0 u s:=by
  rintro s hRs u ⟨_,rfl⟩
  refine round_io (E1:=E1) (l:=D + 1) (rec:=rec') (a:=a) (tm:=kt.map fun t=>(t,look st.tm t)) N hML rfl rfl rfl rfl rfl rfl hs.ok.size hps hnd (fun t => ?_) (hR s hRs) (hbody s hRs)
  have hkeep:noFn (look (kt.map fun t=>(t,look st.tm t)) t)=true:=look_all (p:=noFn) rfl (by rw [List.all_eq_true]; intro q hq; obtain ⟨t,ht,rfl⟩:=List.mem_map.1 hq; exact hnot t ht) t
  exact ((look_map hs.ok.tm kt t).mono leE).setFns _ (fun _=>hkeep)
 have hsw:=hit C1 rfl hfn (fun j hj=>hs.fresh j hj) E1 W1 _ hsat1
 have hcalls:Calls C.P gf all.toArray W1 (rangePost C.F 0 C.P (D + 1) (fun e a' w' => ∃ x E' st',e=x.toExit/\Sat C E' nt st' w' a'/\K x st') { a with defers:={ target := .collected D,args := #[] } :: a.defers }):=by
  refine calls_of_wp hf hb (wp_mono (wpIn_wide.1 hsw) ?_)
  rintro e a2 w2 ⟨x,E2,st2,rfl,hs2,hk2⟩
  have fin:(∃ st3,Ent C1 fn.ntmps st2 st3/\hoIn st3.hp hp2/\st3.nx<=nx2)->a2.defers = [] /\ ∃ v,(results fn a2.tmps).run C.P w2 = .ok v w2/\rangePost C.F 0 C.P (D + 1) (fun e a' w' => ∃ x E' st',e=x.toExit/\Sat C E' nt st' w' a'/\K x st') { a with defers:={ target := .collected D,args := #[] } :: a.defers } (.returned v) w2:=by
   rintro ⟨st3,hent,hho,hnx⟩
   obtain ⟨E3,hs3⟩:=hent E2 w2 a2 hs2
   refine ⟨hs2.ok.defers.1 rfl,_,results_run (us:=[]) (by rw [hrs]; rfl),?_⟩
   have h3:=hs3.ok.heap
   have hL3:E3.M (D + 1)=some (.loop rec'):=h3.le.M _ _ hML
   have hD3:E3.M D=some (.deferred (some [])):=h3.le.M _ _ hMD
   have hend:=run_endLoop (P:=C.P) (h3.mem _ _ hL3) (by simp [rec'])
   refine ⟨none,_,hend,.normal,?_⟩
   let E4:Env:={ E3 with M:=fun b=>if b=D + 1 then none else E3.M b,fns:=E.fns }
   have hlE:E.leC E4:=⟨fun b o hb _=>by
     have hlt:=hMlt b o hb
     show (if b=D + 1 then none else E3.M b)=some o
     rw [if_neg (by omega)]
     exact h3.le.M b o (by show E'.M b=some o; rw [hE'M b hlt]; exact hb),fun b k hb=>h3.le.blk b k hb,fun b u hb=>h3.le.hdr b u hb,rfl⟩
   have hleC0:C.E0.le E4:=⟨fun b o hb=>by
     have hb':=hh.le.M b o hb
     have hlt:=hMlt b o hb'
     show (if b=D + 1 then none else E3.M b)=some o
     rw [if_neg (by omega)]
     exact h3.le.M b o (by show E'.M b=some o; rw [hE'M b hlt]; exact hb'),fun b k hb=>hlE.blk b k (hh.le.blk b k hb),fun b u hb=>hlE.hdr b u (hh.le.hdr b u hb),hh.le.fns⟩
   let E3':Env:={ E3 with M:=fun b=>if b=D + 1 then none else E3.M b }
   let C2:Ctx:=⟨C.P,C.w0,{ E1 with M:=fun b=>if b=D + 1 then none else E1.M b },C.avail,C.hA,none,false⟩
   have h4:HeapOK C2 E3' (Heap.of st3.hp) (w2.putObj (D + 1) (.loop { rec' with state := .exhausted })):=by
    refine h3.putL (C2:=C2) (m:=none) hL3 rfl (.inl rfl) rfl rfl rfl rfl rfl rfl (fun _ h=>h) (fun b hb => ?_) ⟨fun b o hb => ?_,h3.le.blk,h3.le.hdr,h3.le.fns⟩ (fun b o hb => ?_)
    ·have hlt:b < C.w0.heap.size:=Nat.lt_of_not_le fun hle=>hb (C.hA b hle)
     have hsz:=hh.size
     rw [World.putObj_heap_other (by omega)]
     exact h3.pres b hb
    ·replace hb:(if b=D + 1 then none else E1.M b)=some o:=hb
     show (if b=D + 1 then none else E3.M b)=some o
     split at hb
     ·cases hb
     ·rename_i e; rw [if_neg e]; exact h3.le.M b o hb
    ·replace hb:(if b=D + 1 then none else E3.M b)=some o:=hb
     split at hb
     ·cases hb
     ·rename_i e
      rcases h3.ext b o hb with h | h
      ·exact .inl (by show (if b=D + 1 then none else E1.M b)=some o; rw [if_neg e]; exact h)
      ·exact .inr h
   have h5:HeapOK C E4 (Heap.of hp2) (w2.putObj (D + 1) (.loop { rec' with state := .exhausted })):=by
    refine ⟨h4.os,h4.tape,h4.output,h4.size,h4.pres,h4.mem,hleC0,fun b o hb => ?_,fun i ob hi => ?_,fun i j k hij hi hj h1 h2 => ?_⟩
    ·rcases h4.ext b o hb with h | h
     ·replace h:(if b=D + 1 then none else E'.M b)=some o:=h
      split at h
      ·cases h
      ·rename_i e
       by_cases e2:b=D
       ·exact .inr (C.hA b (by rw [e2]; exact hh.size))
       ·replace h:(if b=D then some (.deferred (some [])) else if b=D + 1 then some (.loop rec') else E.M b)=some o:=h
        rw [if_neg e2,if_neg e] at h
        exact hh.ext b o h
     ·exact .inr h
    ·have hm:=Heap.of_mem hi
     have hnf:=hnoh2 _ hm
     refine (h4.own i ob (hoIn_mem hho _ hm)).move (C':=C) (E':=E4) (.inr hnf) (fun _ _ h=>h) (fun _ _ h=>h) rfl (fun _ h=>h) (fun _ _=>rfl) (fun _ _ h=>h) (fun o cs us hr=>⟨⟨fun t e => ?_,fun t sz n f j e => ?_⟩,fun e => ?_⟩)
     ·have e':ob = .cells t cs:=e
      rw [e'] at hnf
      exact hr.setFns E.fns (fun _=>hnf)
     ·have e':ob = .vecx t sz n f j cs:=e
      rw [e'] at hnf
      exact hr.setFns E.fns (fun _=>hnf)
     ·exact hr.setFns E.fns (fun e'=>by rw [e] at e'; cases e')
    ·have get:∀ i,Heap.of hp2 i ≠ none->Heap.of st3.hp i ≠ none:=fun i h=>by
      cases e:Heap.of hp2 i with
      | none=>exact absurd e h
      | some ob=>rw [hoIn_mem hho _ (Heap.of_mem e)]; simp
     exact h4.sep i j k hij (get i hi) (get j hj) h1 h2
   have hC0D:C.E0.M D=none:=by
    cases e:C.E0.M D with
    | none=>rfl
    | some o=>have:=hMlt D o (hh.le.M D o e); omega
   have hD4:E4.M D=some (.deferred (some [])):=by
    show (if D=D + 1 then none else E3.M D)=_
    rw [if_neg (by omega)]; exact hD3
   refine ⟨E4,⟨st.tm,hp2,nx2⟩,rfl,⟨⟨h5,fun t=>(hs.ok.tm t).monoC hlE,⟨(fun h=>by rw [hdf] at h; cases h),⟨D,rfl,hD4,hC0D,(fun d' hd' e => ?_)⟩,hs.ok.defers.2.monoM (fun b o hb => ?_)⟩,hs.ok.size⟩,fun j hj=>hs3.fresh j (Nat.le_trans hnx hj)⟩,hk⟩
   ·obtain ⟨D',h1,h2⟩:=hs.ok.defers.2.mem d' hd'
    rw [h1] at e
    have h3:D'=D:=by injection e with e1 _; injection e1
    have:=hMlt D' _ h2
    omega
   ·have hlt:=hMlt b o hb
    show (if b=D + 1 then none else E3.M b)=some o
    rw [if_neg (by omega)]
    exact h3.le.M b o (by show E'.M b=some o; rw [hE'M b hlt]; exact hb)
  cases x with
  | normal=>exact fin hk2
  | ret=>exact fin hk2
  | exit id=>exact hk2.elim
 refine ⟨D + 1,[{ target := .collected D,args := #[] }],W1,{ target := .fn (.func gf) us.toArray,args:=fs.toArray ++ #[yv] },W1,gf,(fs.toArray ++ #[yv]) ++ us.toArray,W1,?_,?_,?_,?_,(fun h=>by cases h),?_⟩
 ·show (Instr.enterLoop fnid a.tmps ps.toArray assign body C.ro).run C.P w=_
  rw [hro]; exact run_enterLoop_outer _ _ _ _ _
 ·simp only [resolve,hge]
  simp [go_sem]
  rfl
 ·intro f' hf'; trivial
 ·have eg:=hcall
  simp [invoke,go_sem,eg _ _]
 ·have:(fs.toArray ++ #[yv]) ++ us.toArray=all.toArray:=by simp [all]
  rw [this]
  exact callsIn_F hcalls
theorem rng_clo {st:ASt} {g:Operand} {gf:FuncId} {caps:List AV} (hg:opAV (look st.tm) g = .clo gf caps) (E':Env) (u:Value) (h:Rel E' true (opAV (look st.tm) g) u):∃ fs us,u = .func (.func gf) (List.toArray fs) (List.toArray us)/\fs.length=([]:List AV).length/\us.length=caps.length/\(∀ k,Rel E' true (([]:List AV).getD k .any) (fs.getD k undef)) /\ ∀ k,Rel E' true (caps.getD k .any) (us.getD k undef):=by
 rw [hg] at h
 cases h with
 | clo _ hl hk=>exact ⟨[],_,rfl,rfl,hl,fun _ => .any _,hk⟩
structure RangeH where
 J:Type
 ok:J->Prop
 Y:J->CallSpec
 hp:List (Nat × OB)
 N:Nat:=6000
theorem hoIn_self:∀ {l m:List (Nat × OB)},noDup ((m ++ l).map (·.1))=true->hoIn (m ++ l) l:=by
 intro l
 induction l with
 | nil=>intro _ _; trivial
 | cons p r ih =>
  intro m h
  refine ⟨?_,by have:=ih (m:=m ++ [p]) (by simpa using h); simpa using this⟩
  have hn:=noDup_nodup h
  clear ih
  induction m with
  | nil=>rw [List.nil_append,Heap.of_cons,if_pos rfl]
  | cons q m ihm =>
   simp only [List.cons_append,List.map_cons,List.nodup_cons] at hn
   rw [List.cons_append,Heap.of_cons,if_neg]
   ·exact ihm (by simp only [List.cons_append,List.map_cons,noDup,Bool.and_eq_true] at h; exact h.2) hn.2
   ·intro e
    exact hn.1 (by rw [e,List.map_append]; exact List.mem_append_right _ (by simp))
section
variable {C:Ctx} {nt:Nat} {st:ASt}
theorem rnd_end {hout:List (Nat × OB)} (nx:Nat) (h:Ent C nt st ⟨[],hout,nx⟩) (hd:noDup (hout.map (·.1))=true):RndK C nt hout .normal st:=⟨_,h,hoIn_self (m:=[]) hd⟩
theorem rng_ret {hp:List (Nat × OB)} {nx:Nat} (h:Ent C nt st ⟨[],hp,nx⟩) (hd:noDup (hp.map (·.1))=true):RngK C nt hp nx .ret st:=⟨_,h,hoIn_self (m:=[]) hd,Nat.le_refl _⟩
theorem rng_norm {hp:List (Nat × OB)} {nx:Nat} (h:Ent C nt st ⟨[],hp,nx⟩) (hd:noDup (hp.map (·.1))=true):RngK C nt hp nx .normal st:=⟨_,h,hoIn_self (m:=[]) hd,Nat.le_refl _⟩
end
end Go.Ab
namespace Go.Ab
open Go Go.RowKit Go.Proofs
universe u
theorem tv:True:=trivial
theorem An {a b:Prop} (x:a) (y:b):a/\b:=⟨x,y⟩
def tk:Nat->Prop->Prop
 | 0,q=>q
 | n + 1,q=>True/\tk n q
theorem Ak:∀ (n:Nat) {q:Prop},q->tk n q
 | 0,_,h=>h
 | n + 1,_,h=>⟨trivial,Ak n h⟩
theorem zr {α:Sort u} (a:α):a=a:=rfl
theorem ci {a b:Int} (h:a=b):iv a=iv b:=congrArg iv h
theorem cb {a b:Bool} (h:a=b):bv a=bv b:=congrArg bv h
def qOf:Option (Prop × ASt)->Prop
 | some r=>r.1
 | none=>False
def sOf (st:ASt):Option (Prop × ASt)->ASt
 | some r=>r.2
 | none=>st
section
variable {w0:World} {E0:Env} {av:Nat->Prop} {hA:∀ b,w0.heap.size<=b->av b} {nt:Nat} {K:AX->ASt->Prop} {st:ASt} {id:Nat} {l:List Oper} {draw:Bool} {ro:Option Nat} {df:Bool}
theorem zC (cs:List (Nat × CallSpec)) (kt kh:List Nat) {q:Prop} (hq:q) (hk:K .normal (sOf st (regRun Try.prog E0 T0 nt l draw cs kt kh st))) (h:qOf (regRun Try.prog E0 T0 nt l draw cs kt kh st)=q:=by kernel_rfl) :
  SWP ⟨Try.prog,w0,E0,av,hA,ro,df⟩ nt (.region id l.toArray draw) K st:=by
 rw [← h] at hq
 cases he:regRun Try.prog E0 T0 nt l draw cs kt kh st with
 | none=>rw [he] at hq; exact hq.elim
 | some x=>rw [he] at hk hq; exact swp_region T0_ok mixed he hq hk
theorem zR (kt kh:List Nat) {q:Prop} (hq:q) (hk:K .normal (sOf st (regRun Try.prog E0 T0 nt l draw [] kt kh st))) (h:qOf (regRun Try.prog E0 T0 nt l draw [] kt kh st)=q:=by kernel_rfl) :
  SWP ⟨Try.prog,w0,E0,av,hA,ro,df⟩ nt (.region id l.toArray draw) K st:=zC [] kt kh hq hk h
end
section
variable {C:Ctx} {nt:Nat} {K:AX->ASt->Prop} {st st2:ASt}
theorem zE (hE0:∀ j,C.E0.blk j=none/\C.E0.hdr j=none) (bs:List Nat) (mp:List (Nat × Src)) (kt kh:List Nat) {q:Prop} (hq:q) (hb:entB 0 st2 bs mp=true:=by kernel_rfl) (he:entK st st2 bs mp kt kh=q:=by kernel_rfl):Ent C nt st st2:=ent_q hE0 bs mp kt kh q hb he hq
theorem zEn (N:Nat) (hE0:∀ j,N<=j->C.E0.blk j=none/\C.E0.hdr j=none) (bs:List Nat) (mp:List (Nat × Src)) (kt kh:List Nat) {q:Prop} (hq:q) (hb:entB N st2 bs mp=true:=by kernel_rfl) (he:entK st st2 bs mp kt kh=q:=by kernel_rfl):Ent C nt st st2:=ent_n N hE0 bs mp kt kh q hb he hq
def loopZ (C:Ctx) (nt:Nat) (A:LoopAnn) (x:A.X) (K:AX->ASt->Prop):AX->ASt->Prop
 | .normal,st => ∃ x',Ent C nt st (A.S x')/\A.I x'/\A.mu x' < A.mu x
 | e,st=>K e st
theorem zL {c:Code} (A:LoopAnn) (h0:Ent C nt st (A.S A.x0)) (hI:A.I A.x0) (hb:∀ x,A.I x->SWP C nt c (loopZ C nt A x K) (A.S x)):SWP C nt (.loop c) K st :=
 swp_loop A.S A.I A.mu A.x0 h0 hI fun x hx=>swp_mono (hb x hx) fun e s h=>by cases e <;> exact h
theorem zn {A:LoopAnn} {x:A.X} (h:Ent C nt st (A.S (A.nx x))) (hI:A.I (A.nx x)) (hm:A.mu (A.nx x) < A.mu x):∃ x',Ent C nt st (A.S x')/\A.I x'/\A.mu x' < A.mu x:=⟨A.nx x,h,hI,hm⟩
theorem zI {c:Operand} {x y:Code} (b:Bool) (h1:b=true->SWP C nt x K st) (h2:b=false->SWP C nt y K st) (hc:opAV (look st.tm) c = .lit (.bool b):=by kernel_rfl):SWP C nt (.cond c x y) K st:=swp_cond b hc h1 h2
theorem zt {c:Operand} {x y:Code} (h1:SWP C nt x K st) (hc:opAV (look st.tm) c = .lit (.bool true):=by kernel_rfl):SWP C nt (.cond c x y) K st:=swp_cond true hc (fun _=>h1) (fun h=>by cases h)
theorem zf {c:Operand} {x y:Code} (h1:SWP C nt y K st) (hc:opAV (look st.tm) c = .lit (.bool false):=by kernel_rfl):SWP C nt (.cond c x y) K st:=swp_cond false hc (fun h=>by cases h) (fun _=>h1)
theorem zT {T:Tab} {rs:List ResultVar} {res:AV} (bs:List Nat) {q:Prop} (hq:q) (he:retQ T rs st res bs=q:=by kernel_rfl):RetK T rs res .ret st:=ret_q bs q he hq
theorem zP {T:Tab} {rs:List ResultVar} {res:AV} {t:TypeId} {cs':List AV} (cs:List AV) {q:Prop} (hq:q) (hc:cs=cs') (he:retQ T rs st res []=q:=by kernel_rfl) (hH:Heap.of st.hp 0=some (.cells t cs):=by kernel_rfl):RetP T rs res t cs' .ret st:=⟨by rw [he]; exact hq,by rw [hH,hc]⟩
theorem zO {T:Tab} {rs:List ResultVar} {res:AV} {hout:List (Nat × OB)} (st2:ASt) (he:Ent C nt st st2) {q:Prop} (h:q) (hq:retO T rs st2 res hout=q:=by kernel_rfl):RetO C nt T rs res hout .ret st:=ret_o st2 he q hq h
def fzS (b:Nat) (st:ASt):ASt :=
 match Heap.of st.hp b with
 | some (.cells _ cs)=>⟨st.tm.map (fun p=>(p.1,subP b cs p.2)),st.hp.filter (fun p=>p.1 != b),st.nx⟩
 | _=>st
def fzOK (b:Nat) (st:ASt):Bool :=
 match Heap.of st.hp b with
 | some (.cells _ cs)=>cs.all capOK
 | _=>false
theorem zF (b:Nat) (h:fzOK b st=true:=by kernel_rfl):Ent C nt st (fzS b st):=by
 unfold fzOK at h
 split at h
 ·rename_i t cs e
  refine ent_fz b t cs _ e h ?_
  unfold fzS
  rw [e]
 ·cases h
noncomputable def fmV (b:Nat) (st:ASt):AV :=
 match Heap.of st.hp b with
 | some (.mp t q es) =>
  match Tab.kind T0 t with
  | some (TK.mp kt et q')=>match qeq q' q with | true => .mz Try.prog kt et q es | false => .any
  | _ => .any
 | _ => .any
noncomputable def fmS (b:Nat) (st:ASt):ASt:=⟨st.tm.map (fun p=>(p.1,subM b (fmV b st) p.2)),(st.hp.filter (fun p=>p.1 != b)).map (fun p=>(p.1,subMH b (fmV b st) p.2)),st.nx⟩
def fmOK:AV->Bool
 | .mz _ _ _ _ _=>true
 | _=>false
theorem zFm (hP:C.P=Try.prog) (b:Nat) (h:fmOK (fmV b st)=true:=by kernel_rfl):Ent C nt st (fmS b st):=by
 unfold fmS
 generalize hv:fmV b st=v at h
 unfold fmV at hv
 split at hv
 ·rename_i t q es e
  split at hv
  ·rename_i kt et q' hk
   split at hv
   ·rename_i hq
    cases qeq_eq hq
    subst hv
    rw [← hP]
    exact ent_mz (by rw [hP]; exact T0_ok) b t kt et q es _ e hk rfl
   ·subst hv; cases h
  ·subst hv; cases h
 ·subst hv; cases h
end
section
variable {C:Ctx} {nt:Nat} {st:ASt}
theorem zN {hout:List (Nat × OB)} (nx:Nat) (h:Ent C nt st ⟨[],hout,nx⟩) (hd:noDup (hout.map (·.1))=true:=by kernel_rfl):RndK C nt hout .normal st:=rnd_end nx h hd
theorem zM {hp:List (Nat × OB)} {nx:Nat} (h:Ent C nt st ⟨[],hp,nx⟩) (hd:noDup (hp.map (·.1))=true:=by kernel_rfl):RngK C nt hp nx .ret st:=rng_ret h hd
theorem zm {hp:List (Nat × OB)} {nx:Nat} (h:Ent C nt st ⟨[],hp,nx⟩) (hd:noDup (hp.map (·.1))=true:=by kernel_rfl):RngK C nt hp nx .normal st:=rng_norm h hd
end
theorem zG0 {w0:World} {E0:Env} {av:Nat->Prop} {hA:∀ b,w0.heap.size<=b->av b} {nt:Nat} {K:AX->ASt->Prop} {st:ASt} {g:Operand} {ps:List Tmp} {assign body:Code} {gf:FuncId} {fn:Func} {c:Code}
  (h:RangeH) (n1 nx2 kf:Nat) (kt:List Nat) (fa ca:List AV) (hf:Try.prog.funcs[gf]? = some fn) (hcall:Callable Try.prog gf) (hb:fn.body=some c)
  (hit:∀ C':Ctx,C'.P=Try.prog->(∀ j,h.ok j -> ∀ u,C'.E0.fns kf u->FnIO Try.prog C'.E0 u (h.Y j))->(∀ j,n1<=j->C'.E0.blk j=none/\C'.E0.hdr j=none)->SWP C' fn.ntmps c (RngK C' fn.ntmps h.hp nx2) ⟨argsTm (fa ++ .fn kf :: ca) 0,st.hp,st.nx⟩)
  (hbody:∀ j,h.ok j->(h.Y j).pre -> ∀ C':Ctx,C'.P=Try.prog->(∀ j,h.N<=j->C'.E0.blk j=none/\C'.E0.hdr j=none)->SWP C' nt assign (AsgK Try.prog h.N nt body (h.Y j).hout) ⟨ps.zip (h.Y j).args ++ (kt.map fun t=>(t,look st.tm t)),(h.Y j).hin,h.N⟩)
  (hk:K .normal ⟨st.tm,h.hp,nx2⟩) (hg:∀ (E':Env) (u:Value),Rel E' true (opAV (look st.tm) g) u -> ∃ fs us,u = .func (.func gf) (List.toArray fs) (List.toArray us)/\fs.length=fa.length/\us.length=ca.length/\(∀ k,Rel E' true (fa.getD k .any) (fs.getD k undef)) /\ ∀ k,Rel E' true (ca.getD k .any) (us.getD k undef))
  (hnx:st.nx=n1) (hrs:fn.results = #[]) (hn:Nat.ble (fa.length + ca.length + 1) fn.ntmps=true) (hp:(ps.all fun p=>Nat.ble (p + 1) nt)=true) (hnd:noDup ps=true)
  (hno:(noFnL fa && noFnL ca && (kt.all fun t=>noFn (look st.tm t)) && (st.hp.all fun q=>obNoFn q.2) && h.hp.all fun q=>obNoFn q.2)=true) (hR:∀ j,rndOK (h.Y j) (kt.map fun t=>(t,look st.tm t)) h.N ps.length=true) :
  SWP ⟨Try.prog,w0,E0,av,hA,none,true⟩ nt (.rangeFunc g ps.toArray assign body) K st :=
 swp_range0 h.hp nx2 kf h.N kt (fun s => ∃ j,h.ok j/\s=h.Y j) rfl rfl hg hf hb hrs hcall (Nat.le_of_ble_eq_true hn) (fun p hp'=>Nat.le_of_ble_eq_true (List.all_eq_true.1 hp p hp')) (noDup_nodup hnd) hno (by rintro s ⟨j,_,rfl⟩; exact hR j)
  (fun C' hC hY hE=>hit C' hC (fun j hj=>hY _ ⟨j,hj,rfl⟩) (by rw [hnx] at hE; exact hE)) (by rintro s ⟨j,hj,rfl⟩; exact hbody j hj) hk
theorem zG {w0:World} {E0:Env} {av:Nat->Prop} {hA:∀ b,w0.heap.size<=b->av b} {nt:Nat} {K:AX->ASt->Prop} {st:ASt} {g:Operand} {ps:List Tmp} {assign body:Code} {gf:FuncId} {fn:Func} {c:Code}
  (h:RangeH) (n1 nx2 kf:Nat) (kt:List Nat) (caps:List AV) (hf:Try.prog.funcs[gf]? = some fn) (hcall:Callable Try.prog gf) (hb:fn.body=some c)
  (hit:∀ C':Ctx,C'.P=Try.prog->(∀ j,h.ok j -> ∀ u,C'.E0.fns kf u->FnIO Try.prog C'.E0 u (h.Y j))->(∀ j,n1<=j->C'.E0.blk j=none/\C'.E0.hdr j=none)->SWP C' fn.ntmps c (RngK C' fn.ntmps h.hp nx2) ⟨argsTm ([] ++ .fn kf :: caps) 0,st.hp,st.nx⟩)
  (hbody:∀ j,h.ok j->(h.Y j).pre -> ∀ C':Ctx,C'.P=Try.prog->(∀ j,h.N<=j->C'.E0.blk j=none/\C'.E0.hdr j=none)->SWP C' nt assign (AsgK Try.prog h.N nt body (h.Y j).hout) ⟨ps.zip (h.Y j).args ++ (kt.map fun t=>(t,look st.tm t)),(h.Y j).hin,h.N⟩)
  (hk:K .normal ⟨st.tm,h.hp,nx2⟩) (hnx:st.nx=n1:=by kernel_rfl) (hrs:fn.results = #[]:=by rfl) (hg:opAV (look st.tm) g = .clo gf caps:=by kernel_rfl) (hn:Nat.ble (([]:List AV).length + (caps:List AV).length + 1) fn.ntmps=true:=by kernel_rfl) (hp:(ps.all fun p=>Nat.ble (p + 1) nt)=true:=by kernel_rfl) (hnd:noDup ps=true:=by kernel_rfl)
  (hno:(noFnL [] && noFnL caps && (kt.all fun t=>noFn (look st.tm t)) && (st.hp.all fun q=>obNoFn q.2) && h.hp.all fun q=>obNoFn q.2)=true:=by kernel_rfl) (hR:∀ j,rndOK (h.Y j) (kt.map fun t=>(t,look st.tm t)) h.N ps.length=true:=by (intro _; kernel_rfl)) :
  SWP ⟨Try.prog,w0,E0,av,hA,none,true⟩ nt (.rangeFunc g ps.toArray assign body) K st:=zG0 h n1 nx2 kf kt [] caps hf hcall hb hit hbody hk (rng_clo hg) hnx hrs hn hp hnd hno hR
end Go.Ab
namespace Go.Ab
theorem getD_lt {α:Type} (l:List α) (d:α) {i:Nat} (h:i < l.length):l.getD i d=l[i]:=by
 rw [List.getD_eq_getElem?_getD,List.getElem?_eq_getElem h]; rfl
theorem getD_ge {α:Type} (l:List α) (d:α) {i:Nat} (h:l.length<=i):l.getD i d=d:=by
 rw [List.getD_eq_getElem?_getD,List.getElem?_eq_none h]; rfl
theorem getD_mem {α:Type} (l:List α) (d:α) {i:Nat} (h:i < l.length):l.getD i d ∈ l:=by
 rw [getD_lt l d h]; exact List.getElem_mem h
theorem take_succ {α:Type} (l:List α) (d:α) {i:Nat} (h:i < l.length):l.take (i + 1)=l.take i ++ [l.getD i d]:=by
 rw [getD_lt l d h,List.take_add_one,List.getElem?_eq_getElem h]; rfl
theorem any_idx {α:Type} (l:List α) (d:α) (p:α->Bool) (h:∀ j,j < l.length->p (l.getD j d)=false):l.any p=false:=by
 rw [List.any_eq_false]
 intro x hx
 obtain ⟨j,hj,rfl⟩:=List.getElem_of_mem hx
 rw [← getD_lt l d hj,h j hj]; simp
theorem some_any {α:Type} (l:List α) (d:α) (p:α->Bool) {j:Nat} (hj:j < l.length) (h:p (l.getD j d)=true):l.any p=true:=by
 rw [List.any_eq_true]
 exact ⟨_,getD_mem l d hj,h⟩
theorem lt_succ_cases {P:Nat->Prop} {i:Nat} (h:∀ j,j < i->P j) (hi:P i):∀ j,j < i + 1->P j:=by
 intro j hj
 by_cases e:j=i
 ·subst e; exact hi
 ·exact h j (by omega)
theorem foldl_range_succ {α:Type} (f:α->Nat->α) (a:α) (n:Nat):(List.range (n + 1)).foldl f a=f ((List.range n).foldl f a) n:=by
 rw [List.range_succ,List.foldl_append]; rfl
theorem getD_append {α:Type} (l m:List α) (d:α) (i:Nat):(l ++ m).getD i d=if i < l.length then l.getD i d else m.getD (i - l.length) d:=by
 simp only [List.getD_eq_getElem?_getD,List.getElem?_append]
 split <;> rfl
theorem catF_eq {α:Type} (l m:List α) (d:α) (F:α->List AV) {n:Nat} {f g:Nat->List AV} (hn:n=l.length) (hf:∀ k,k < l.length->f k=F (l.getD k d)) (hg:∀ k,k < m.length->g k=F (m.getD k d)) {i:Nat} (hi:i < l.length + m.length):catF n f g i=F ((l ++ m).getD i d):=by
 unfold catF
 rw [getD_append,hn]
 split
 ·exact hf i ‹_›
 ·exact hg _ (by omega)
theorem catF_one {α:Type} (l:List α) (x:α) (d:α) (F:α->List AV) {n:Nat} {f:Nat->List AV} {cells dd:List AV} (hn:n=l.length) (hf:∀ k,k < l.length->f k=F (l.getD k d)) (hc:cells=F x) {i:Nat} (hi:i < l.length + 1):catF n f (fun j=>[cells].getD j dd) i=F ((l ++ [x]).getD i d):=by
 refine catF_eq l [x] d F hn hf (fun k hk => ?_) (by simpa using hi)
 have:k=0:=by simp at hk; omega
 subst this
 exact hc
end Go.Ab
namespace Go.Sh
structure Span where
 lo:Int
 hi:Int
 deriving DecidableEq,Inhabited
def within (n lo hi:Int):Bool:=decide (lo<=n) && decide (n<=hi)
def isIn (l:List Int) (n:Int):Bool:=l.any (fun x=>decide (x=n))
def risAt (l:List Int) (lo hi:Int) (i:Nat):Bool:=within (l.getD i 0) lo hi && (!decide ((i:Int) > 0) || !decide (l.getD i 0<=l.getD (i - 1) 0))
def rising (l:List Int) (lo hi:Int):Bool:=(List.range l.length).all (risAt l lo hi)
theorem within_iff {n lo hi:Int}:within n lo hi=true ↔ lo<=n/\n<=hi:=by simp [within]
end Go.Sh
namespace Go.En
open Go Go.Ab Go.Sh
def aInts (l:List Int):AV := .sl 1 l.length (fun i=>[iv (l.getD i 0)])
def aIntss (l:List (List Int)):AV := .sl 1 l.length (fun i=>[aInts (l.getD i [])])
end Go.En
namespace Go.Ab
open Go Go.RowKit Go.Sh Go.En
abbrev big:Nat:=1125899906842624
def s46 (n lo hi:Int):CallSpec:={ args:=[iv n,iv lo,iv hi],res:=bv (within n lo hi) }
def s19 (l:List Int) (n:Int):CallSpec:={ args:=[aInts l,iv n],res:=bv (isIn l n),pre:=l.length<=big }
def h19 (l:List Int) (n:Int):Hint:={ X:=Nat,M:=fun i=>[(5,iv i)],I:=fun i=>i<=l.length/\isIn (l.take i) n=false,mu:=fun i=>l.length - i,x0:=(0:Nat),nx:=fun i=>i + 1 }
def s12 (l:List Int) (lo hi:Int):CallSpec:={ args:=[aInts l,iv lo,iv hi],res:=bv (rising l lo hi),pre:=l.length<=big }
def h12 (l:List Int) (lo hi:Int):Hint:={ X:=Nat,M:=fun i=>[(7,iv i)],I:=fun i=>i<=l.length /\ ∀ j,j < i->risAt l lo hi j=true,mu:=fun i=>l.length - i,x0:=(0:Nat),nx:=fun i=>i + 1 }
end Go.Ab
namespace Go.Ab
open Go Go.RowKit Go.Proofs Go.Sh Go.En
theorem w46 (n:Int) (lo:Int) (hi:Int)
  (o0:(bif decide (lo<=n) then decide (n<=hi) else false)=within n lo hi) :
  Triple Try.prog 46 (s46 n lo hi):=by
 refine triple_of Try.func46 rfl Try.call46 T0_ok _ rfl rfl rfl rfl (Nat.le_of_ble_eq_true (by kernel_rfl)) (fun _ _ _ _ h=>h) ?_
 intro _ C hC _ hE
 obtain ⟨P,w0,E0,av,hA,ro,df⟩:=C
 obtain ⟨rfl,rfl,rfl⟩:=hC
 refine swp_seq ?_
 refine zR [0,1,2] [] (Ak 1 tv) ?_
 refine swp_seq ?_
 refine zR [6] [] (Ak 4 (An (fun (y0:decide (lo<=n)=true)=>(An (Ak 1 tv) tv)) (An (fun (y1:decide (lo<=n)=true)=>(An (Ak 1 tv) tv)) (An (fun (y2:decide (lo<=n)=true)=>(An (An (fun (y3:decide (lo<=n)=true)=>y2) (An (fun (y4:decide (lo<=n)=true)=>y2) tv)) tv)) (An (An (fun (y5:decide (lo<=n)=true)=>y5) (fun (y6:decide (lo<=n)=false)=>tv)) (Ak 1 tv)))))) ?_
 refine swp_ret ?_
 exact zT [] (An (Ak 1 tv) (An (An (cb (o0)) (zr nilN)) (An (zr true) (An (zr true) (zr true)))))
theorem t46 (n lo hi:Int):Triple Try.prog 46 (s46 n lo hi):=by
 refine w46 n lo hi ?_
 unfold within; cases decide (lo<=n) <;> rfl
abbrev q0 (l:List Int) (Pq:Prop):Prop:=l.length<=big->Pq
abbrev q1 (l:List Int) (n:Int) (x0:Nat) (Pq:Prop):Prop:=x0<=l.length/\isIn (List.take x0 l) n=false->Pq
abbrev q2 (l:List Int) (n:Int) (x0:Nat) (Pq:Prop):Prop:=q1 l n x0 (decide ((x0:Int) < (↑(l.length):Int))=true->Pq)
theorem w19 (l:List Int) (n:Int)
 (o0:List.length l<=big->0=(↑0:Int))
 (o1:q0 l (0<=l.length/\isIn (List.take 0 l) n=false))
 (o2:q0 l (∀ (x0:Nat),q2 l n x0 (0<=(x0:Int))))
 (o3:q0 l (∀ (x0:Nat),q2 l n x0 ((x0:Int) < (↑(l.length):Int))))
 (o4:q0 l (∀ (x0:Nat),q2 l n x0 (decide (l.getD x0 0=n)=true->true=isIn l n)))
 (o5:q0 l (∀ (x0:Nat),q2 l n x0 (decide (l.getD x0 0=n)=false->inI ((x0:Int) + 1))))
 (o6:q0 l (∀ (x0:Nat),q2 l n x0 (decide (l.getD x0 0=n)=false->(x0:Int) + 1=(↑(x0 + 1):Int))))
 (o7:q0 l (∀ (x0:Nat),q2 l n x0 (decide (l.getD x0 0=n)=false->x0 + 1<=l.length/\isIn (List.take (x0 + 1) l) n=false)))
 (o8:q0 l (∀ (x0:Nat),q2 l n x0 (decide (l.getD x0 0=n)=false->l.length - (x0 + 1) < l.length - x0)))
 (o9:q0 l (∀ (x0:Nat),q1 l n x0 (decide ((x0:Int) < (↑(l.length):Int))=false->false=isIn l n))) :
  Triple Try.prog 19 (s19 l n):=by
 refine triple_of Try.func19 rfl Try.call19 T0_ok _ rfl rfl rfl rfl (Nat.le_of_ble_eq_true (by kernel_rfl)) (fun _ _ _ _ h=>h) ?_
 intro hpre C hC _ hE
 obtain ⟨P,w0,E0,av,hA,ro,df⟩:=C
 obtain ⟨rfl,rfl,rfl⟩:=hC
 refine swp_seq ?_
 refine zR [0,1] [] (Ak 1 tv) ?_
 refine swp_seq ?_
 refine swp_seq ?_
 refine zR [0,1,5] [] (Ak 1 tv) ?_
 refine swp_block ?_
 refine zL (Hint.ann (h19 l n) [(0,aInts l),(1,iv n)] [] 10016) (zE hE [] [] [0,1] [] (An (An (An (zr (aInts l)) (zr true)) (An (An (zr (iv n)) (zr true)) (An (An (ci (o0 hpre)) (zr nilN)) tv))) (Ak 1 (An (zr true) (zr true))))) (o1 hpre) (fun (x0:Nat) hx0 => ?_)
 refine swp_seq ?_
 refine swp_seq ?_
 refine zR [0,1,5,9] [] (Ak 4 tv) ?_
 refine zI (decide ((x0:Int) < (↑(l.length):Int))) (fun y1 => ?_) (fun y1 => ?_)
 ·refine swp_skip ?_
  refine swp_seq ?_
  refine swp_block ?_
  refine swp_seq ?_
  refine zR [0,1,5,17] [] (Ak 2 (An (An (o2 hpre x0 hx0 y1) (o3 hpre x0 hx0 y1)) (Ak 3 tv))) ?_
  refine zI (decide (l.getD x0 0=n)) (fun y2 => ?_) (fun y2 => ?_)
  ·refine swp_seq ?_
   refine zR [4] [] (Ak 1 tv) ?_
   refine swp_ret ?_
   exact zT [] (An (Ak 1 tv) (An (An (cb (o4 hpre x0 hx0 y1 y2)) (zr nilN)) (An (zr true) (An (zr true) (zr true)))))
  ·refine swp_skip ?_
   refine zR [0,1,5] [] (Ak 1 (An (o5 hpre x0 hx0 y1 y2) (Ak 1 tv))) ?_
   exact zn (zE hE [] [] [0,1] [] (An (An (An (zr (aInts l)) (zr true)) (An (An (zr (iv n)) (zr true)) (An (An (ci (o6 hpre x0 hx0 y1 y2)) (zr nilN)) tv))) (Ak 1 (An (zr true) (zr true))))) (o7 hpre x0 hx0 y1 y2) (o8 hpre x0 hx0 y1 y2)
 ·refine swp_exit ?_
  refine swp_seq ?_
  refine zR [4] [] (Ak 1 tv) ?_
  refine swp_ret ?_
  exact zT [] (An (Ak 1 tv) (An (An (cb (o9 hpre x0 hx0 y1)) (zr nilN)) (An (zr true) (An (zr true) (zr true)))))
theorem t19 (l:List Int) (n:Int):Triple Try.prog 19 (s19 l n):=by
 apply w19
 all_goals (try delta q0 q1 q2)
 case o1=>intro _; exact ⟨Nat.zero_le _,rfl⟩
 case o4 =>
  intro hp x hx h h2
  simp only [decide_eq_true_eq] at h
  exact (some_any l 0 _ (by omega) h2).symm
 case o7 =>
  intro hp x hx h h2
  simp only [decide_eq_true_eq] at h
  refine ⟨by omega,?_⟩
  rw [take_succ l 0 (by omega)]
  have h3:=hx.2
  unfold isIn at h3 ⊢
  rw [List.any_append,h3]; simpa using h2
 case o9 =>
  intro hp x hx h
  simp only [decide_eq_false_iff_not] at h
  have h3:=hx.2
  rw [List.take_of_length_le (by omega)] at h3
  exact h3.symm
 all_goals (try ((repeat intro _) <;> (try simp only [Bool.cond_true_left,Bool.cond_false_right,Bool.not_not,Bool.not_eq_true',Bool.not_eq_false',Bool.or_eq_true,Bool.or_eq_false_iff,Bool.and_eq_true,decide_eq_true_eq,decide_eq_false_iff_not,inI,big] at *) <;> first | (exact rfl) | omega | (exact ⟨Nat.zero_le _,fun j hj=>absurd hj (Nat.not_lt_zero j)⟩) | (simp_all; done) | (simp_all; omega)))
abbrev q3 (l:List Int) (Pq:Prop):Prop:=l.length<=big->Pq
abbrev q4 (l:List Int) (lo:Int) (hi:Int) (x0:Nat) (Pq:Prop):Prop:=(x0<=l.length /\ ∀ (j:Nat),j < x0->risAt l lo hi j=true)->Pq
abbrev q5 (l:List Int) (lo:Int) (hi:Int) (x0:Nat) (Pq:Prop):Prop:=q4 l lo hi x0 (decide ((x0:Int) < (↑(l.length):Int))=true->Pq)
abbrev q6 (l:List Int) (lo:Int) (hi:Int) (x0:Nat) (Pq:Prop):Prop:=q5 l lo hi x0 ((!!within (l.getD x0 0) lo hi && decide (0 < (x0:Int)))=true->Pq)
abbrev q7 (l:List Int) (lo:Int) (hi:Int) (x0:Nat) (Pq:Prop):Prop:=q5 l lo hi x0 ((bif !within (l.getD x0 0) lo hi then true else bif decide (0 < (x0:Int)) then decide (l.getD x0 0<=l.getD ((x0:Int) - 1).toNat 0) else false)=false->Pq)
theorem w12 (l:List Int) (lo:Int) (hi:Int)
 (o0:List.length l<=big->0=(↑0:Int))
 (o1:q3 l (0<=l.length /\ ∀ (j:Nat),j < 0->risAt l lo hi j=true))
 (o2:q3 l (∀ (x0:Nat),q5 l lo hi x0 (0<=(x0:Int))))
 (o3:q3 l (∀ (x0:Nat),q5 l lo hi x0 ((x0:Int) < (↑(l.length):Int))))
 (o4:q3 l (∀ (x0:Nat),q6 l lo hi x0 (0<=(x0:Int))))
 (o5:q3 l (∀ (x0:Nat),q6 l lo hi x0 ((x0:Int) < (↑(l.length):Int))))
 (o6:q3 l (∀ (x0:Nat),q6 l lo hi x0 (inI ((x0:Int) - 1))))
 (o7:q3 l (∀ (x0:Nat),q6 l lo hi x0 (0<=(x0:Int) - 1)))
 (o8:q3 l (∀ (x0:Nat),q6 l lo hi x0 ((x0:Int) - 1 < (↑(l.length):Int))))
 (o9:q3 l (∀ (x0:Nat),q5 l lo hi x0 ((!!within (l.getD x0 0) lo hi)=true->decide (0 < (x0:Int))=true->(!!within (l.getD x0 0) lo hi && decide (0 < (x0:Int)))=true)))
 (o10:q3 l (∀ (x0:Nat),q5 l lo hi x0 ((!within (l.getD x0 0) lo hi)=false->(!!within (l.getD x0 0) lo hi)=true)))
 (o11:q3 l (∀ (x0:Nat),q5 l lo hi x0 ((bif !within (l.getD x0 0) lo hi then true else bif decide (0 < (x0:Int)) then decide (l.getD x0 0<=l.getD ((x0:Int) - 1).toNat 0) else false)=true->false=rising l lo hi)))
 (o12:q3 l (∀ (x0:Nat),q7 l lo hi x0 (inI ((x0:Int) + 1))))
 (o13:q3 l (∀ (x0:Nat),q7 l lo hi x0 ((x0:Int) + 1=(↑(x0 + 1):Int))))
 (o14:q3 l (∀ (x0:Nat),q7 l lo hi x0 (x0 + 1<=l.length /\ ∀ (j:Nat),j < x0 + 1->risAt l lo hi j=true)))
 (o15:q3 l (∀ (x0:Nat),q7 l lo hi x0 (l.length - (x0 + 1) < l.length - x0)))
 (o16:q3 l (∀ (x0:Nat),q4 l lo hi x0 (decide ((x0:Int) < (↑(l.length):Int))=false->true=rising l lo hi))) :
  Triple Try.prog 12 (s12 l lo hi):=by
 refine triple_of Try.func12 rfl Try.call12 T0_ok _ rfl rfl rfl rfl (Nat.le_of_ble_eq_true (by kernel_rfl)) (fun _ _ _ _ h=>h) ?_
 intro hpre C hC _ hE
 obtain ⟨P,w0,E0,av,hA,ro,df⟩:=C
 obtain ⟨rfl,rfl,rfl⟩:=hC
 refine swp_seq ?_
 refine zR [0,1,2] [] (Ak 1 tv) ?_
 refine swp_seq ?_
 refine swp_seq ?_
 refine zR [0,1,2,7] [] (Ak 1 tv) ?_
 refine swp_block ?_
 refine zL (Hint.ann (h12 l lo hi) [(0,aInts l),(1,iv lo),(2,iv hi)] [] 10016) (zE hE [] [] [0,1,2] [] (An (An (An (zr (aInts l)) (zr true)) (An (An (zr (iv lo)) (zr true)) (An (An (zr (iv hi)) (zr true)) (An (An (ci (o0 hpre)) (zr nilN)) tv)))) (Ak 1 (An (zr true) (zr true))))) (o1 hpre) (fun (x0:Nat) hx0 => ?_)
 refine swp_seq ?_
 refine swp_seq ?_
 refine zR [0,1,2,7,11] [] (Ak 4 tv) ?_
 refine zI (decide ((x0:Int) < (↑(l.length):Int))) (fun y1 => ?_) (fun y1 => ?_)
 ·refine swp_skip ?_
  refine swp_seq ?_
  refine swp_block ?_
  refine swp_seq ?_
  refine zC ([(6,CallSpec.eq (s46 (l.getD x0 0) lo hi) [true,true,true])]) [0,1,2,7,37] [] (Ak 2 (An (An (o2 hpre x0 hx0 y1) (o3 hpre x0 hx0 y1)) (Ak 3 (An (An (An (zr (iv (l.getD x0 0))) (An (zr (iv lo)) (An (zr (iv hi)) tv))) (An (t46 (l.getD x0 0) (lo) (hi)) (Ak 2 (fun (i2:Env)=>tv)))) (Ak 2 (An (fun (y3:(!!within (l.getD x0 0) lo hi)=true)=>(An (Ak 1 tv) tv)) (An (fun (y4:(!!within (l.getD x0 0) lo hi)=true)=>(An (An (fun (y5:(!!within (l.getD x0 0) lo hi)=true)=>y4) (Ak 1 tv)) tv)) (An (fun (y6:(!!within (l.getD x0 0) lo hi)=true)=>(An (An (fun (y7:(!!within (l.getD x0 0) lo hi)=true)=>y6) tv) tv)) (An (fun (y8:(!!within (l.getD x0 0) lo hi && decide (0 < (x0:Int)))=true)=>(An (Ak 1 tv) tv)) (An (fun (y9:(!!within (l.getD x0 0) lo hi && decide (0 < (x0:Int)))=true)=>(An (Ak 1 tv) tv)) (An (fun (y10:(!!within (l.getD x0 0) lo hi && decide (0 < (x0:Int)))=true)=>(An (An (fun (y11:(!!within (l.getD x0 0) lo hi && decide (0 < (x0:Int)))=true)=>y10) (An (fun (y12:(!!within (l.getD x0 0) lo hi && decide (0 < (x0:Int)))=true)=>y10) tv)) (An (o4 hpre x0 hx0 y1 y10) (o5 hpre x0 hx0 y1 y10)))) (An (fun (y13:(!!within (l.getD x0 0) lo hi && decide (0 < (x0:Int)))=true)=>(An (An (fun (y14:(!!within (l.getD x0 0) lo hi && decide (0 < (x0:Int)))=true)=>y13) tv) tv)) (An (fun (y15:(!!within (l.getD x0 0) lo hi && decide (0 < (x0:Int)))=true)=>(An (Ak 1 tv) tv)) (An (fun (y16:(!!within (l.getD x0 0) lo hi && decide (0 < (x0:Int)))=true)=>(An (Ak 1 tv) tv)) (An (fun (y17:(!!within (l.getD x0 0) lo hi && decide (0 < (x0:Int)))=true)=>(An (An (fun (y18:(!!within (l.getD x0 0) lo hi && decide (0 < (x0:Int)))=true)=>y17) (Ak 1 tv)) (o6 hpre x0 hx0 y1 y17))) (An (fun (y19:(!!within (l.getD x0 0) lo hi && decide (0 < (x0:Int)))=true)=>(An (An (fun (y20:(!!within (l.getD x0 0) lo hi && decide (0 < (x0:Int)))=true)=>y19) (An (fun (y21:(!!within (l.getD x0 0) lo hi && decide (0 < (x0:Int)))=true)=>y19) tv)) (An (o7 hpre x0 hx0 y1 y19) (o8 hpre x0 hx0 y1 y19)))) (An (fun (y22:(!!within (l.getD x0 0) lo hi && decide (0 < (x0:Int)))=true)=>(An (An (fun (y23:(!!within (l.getD x0 0) lo hi && decide (0 < (x0:Int)))=true)=>y22) tv) tv)) (An (fun (y24:(!!within (l.getD x0 0) lo hi && decide (0 < (x0:Int)))=true)=>(An (An (fun (y25:(!!within (l.getD x0 0) lo hi && decide (0 < (x0:Int)))=true)=>y24) (An (fun (y26:(!!within (l.getD x0 0) lo hi && decide (0 < (x0:Int)))=true)=>y24) tv)) tv)) (An (fun (y27:(!!within (l.getD x0 0) lo hi)=true)=>(An (An (fun (y28:(!!within (l.getD x0 0) lo hi)=true)=>y27) tv) (An (fun (y29:decide (0 < (x0:Int))=true)=>(o9 hpre x0 hx0 y1 y27 y29)) (fun (y30:decide (0 < (x0:Int))=false)=>tv)))) (An (An (fun (y31:(!within (l.getD x0 0) lo hi)=true)=>tv) (fun (y32:(!within (l.getD x0 0) lo hi)=false)=>(o10 hpre x0 hx0 y1 y32))) tv)))))))))))))))))))) ?_
  refine zI (bif !within (l.getD x0 0) lo hi then true else bif decide (0 < (x0:Int)) then decide (l.getD x0 0<=l.getD ((x0:Int) - 1).toNat 0) else false) (fun y33 => ?_) (fun y33 => ?_)
  ·refine swp_seq ?_
   refine zR [6] [] (Ak 1 tv) ?_
   refine swp_ret ?_
   exact zT [] (An (Ak 1 tv) (An (An (cb (o11 hpre x0 hx0 y1 y33)) (zr nilN)) (An (zr true) (An (zr true) (zr true)))))
  ·refine swp_skip ?_
   refine zR [0,1,2,7] [] (Ak 1 (An (o12 hpre x0 hx0 y1 y33) (Ak 1 tv))) ?_
   exact zn (zE hE [] [] [0,1,2] [] (An (An (An (zr (aInts l)) (zr true)) (An (An (zr (iv lo)) (zr true)) (An (An (zr (iv hi)) (zr true)) (An (An (ci (o13 hpre x0 hx0 y1 y33)) (zr nilN)) tv)))) (Ak 1 (An (zr true) (zr true))))) (o14 hpre x0 hx0 y1 y33) (o15 hpre x0 hx0 y1 y33)
 ·refine swp_exit ?_
  refine swp_seq ?_
  refine zR [6] [] (Ak 1 tv) ?_
  refine swp_ret ?_
  exact zT [] (An (Ak 1 tv) (An (An (cb (o16 hpre x0 hx0 y1)) (zr nilN)) (An (zr true) (An (zr true) (zr true)))))
theorem t12 (l:List Int) (lo hi:Int):Triple Try.prog 12 (s12 l lo hi):=by
 apply w12
 all_goals (try delta q3 q4 q5 q6 q7)
 case o11 =>
  intro hp x hx h h2
  simp only [decide_eq_true_eq] at h
  symm
  unfold rising
  rw [List.all_eq_false]
  refine ⟨x,List.mem_range.2 (by omega),?_⟩
  simp only [risAt]
  have e:Int.toNat ((x:Int) - 1)=x - 1:=by omega
  rw [e] at h2
  generalize l.getD x 0=a at *
  generalize l.getD (x - 1) 0=b at *
  cases e2:within a lo hi
  ·simp
  ·simp only [e2,Bool.not_true,cond_false,Bool.cond_false_right,Bool.and_eq_true,decide_eq_true_eq] at h2
   have h3:(x:Int) > 0:=h2.1
   simp [h2.2]; omega
 case o14 =>
  intro hp x hx h h2
  simp only [decide_eq_true_eq] at h
  refine ⟨by omega,lt_succ_cases hx.2 ?_⟩
  simp only [risAt]
  have e:Int.toNat ((x:Int) - 1)=x - 1:=by omega
  rw [e] at h2
  generalize l.getD x 0=a at *
  generalize l.getD (x - 1) 0=b at *
  cases e2:within a lo hi
  ·simp [e2] at h2
  ·simp only [e2,Bool.not_true,cond_false,Bool.cond_false_right,Bool.and_eq_false_imp,decide_eq_true_eq,decide_eq_false_iff_not] at h2
   simp only [Bool.true_and,Bool.or_eq_true,Bool.not_eq_true',decide_eq_false_iff_not]
   by_cases e:(x:Int) > 0
   ·exact .inr (h2 (by omega))
   ·exact .inl e
 case o16 =>
  intro hp x hx h
  simp only [decide_eq_false_iff_not] at h
  symm
  unfold rising
  rw [List.all_eq_true]
  intro j hj
  exact hx.2 j (by have:=List.mem_range.1 hj; omega)
 all_goals (try ((repeat intro _) <;> (try simp only [Bool.cond_true_left,Bool.cond_false_right,Bool.not_not,Bool.not_eq_true',Bool.not_eq_false',Bool.or_eq_true,Bool.or_eq_false_iff,Bool.and_eq_true,decide_eq_true_eq,decide_eq_false_iff_not,inI,big] at *) <;> first | (exact rfl) | omega | (exact ⟨Nat.zero_le _,fun j hj=>absurd hj (Nat.not_lt_zero j)⟩) | (simp_all; done) | (simp_all; omega)))
end Go.Ab
namespace Go.Proofs
open Go.Shelf
def Try.lays189_ren:Go.Shelf.Ren:=⟨fun | 189=>139 | 125=>143 | 257=>142 | 128=>153 | 129=>154 | 294=>144 | 295=>145 | 296=>146 | 297=>147 | 298=>148 | 299=>149 | 216=>150 | 300=>151 | 301=>152 | 328=>155 | 329=>156 | 330=>157 | 331=>158 | 332=>159 | 215=>136 | 343=>160 | n=>n,fun | 28=>26 | 3=>3 | 46=>141 | 0=>0 | 51=>200 | 53=>202 | 4=>4 | 183=>194 | 182=>193 | 131=>197 | 5=>5 | 9=>9 | 218=>203 | 222=>207 | 228=>209 | 229=>210 | n=>n,fun | n=>n⟩
theorem Try.lays189:Go.Proofs.Lays.n189 Try.prog Try.lays189_ren:={
 mixed:=by kernel_rfl
 f125:=Try.func143.trans (congrArg some (by kernel_rfl))
 f128:=Try.func153.trans (congrArg some (by kernel_rfl))
 f129:=Try.func154.trans (congrArg some (by kernel_rfl))
 f189:=Try.func139.trans (congrArg some (by kernel_rfl))
 f215:=Try.func136.trans (congrArg some (by kernel_rfl))
 f216:=Try.func150.trans (congrArg some (by kernel_rfl))
 f257:=Try.func142.trans (congrArg some (by kernel_rfl))
 f294:=Try.func144.trans (congrArg some (by kernel_rfl))
 f295:=Try.func145.trans (congrArg some (by kernel_rfl))
 f296:=Try.func146.trans (congrArg some (by kernel_rfl))
 f297:=Try.func147.trans (congrArg some (by kernel_rfl))
 f298:=Try.func148.trans (congrArg some (by kernel_rfl))
 f299:=Try.func149.trans (congrArg some (by kernel_rfl))
 f300:=Try.func151.trans (congrArg some (by kernel_rfl))
 f301:=Try.func152.trans (congrArg some (by kernel_rfl))
 f328:=Try.func155.trans (congrArg some (by kernel_rfl))
 f329:=Try.func156.trans (congrArg some (by kernel_rfl))
 f330:=Try.func157.trans (congrArg some (by kernel_rfl))
 f331:=Try.func158.trans (congrArg some (by kernel_rfl))
 f332:=Try.func159.trans (congrArg some (by kernel_rfl))
 f343:=Try.func160.trans (congrArg some (by kernel_rfl))
 t0:=Try.underlying0
 a0:=Try.isAgg0
 z0:=Try.sizeOf0
 v0:=Try.zeroValue0
 t3:=Try.underlying3
 a3:=Try.isAgg3
 z3:=Try.sizeOf3
 v3:=Try.zeroValue3
 t4:=Try.underlying4
 a4:=Try.isAgg4
 z4:=Try.sizeOf4
 v4:=Try.zeroValue4
 t5:=Try.underlying5
 a5:=Try.isAgg5
 z5:=Try.sizeOf5
 v5:=Try.zeroValue5
 t9:=Try.underlying9
 a9:=Try.isAgg9
 z9:=Try.sizeOf9
 v9:=Try.zeroValue9
 t28:=Try.underlying26
 a28:=Try.isAgg26
 z28:=Try.sizeOf26
 v28:=Try.zeroValue26
 t46:=Try.underlying141
 a46:=Try.isAgg141
 z46:=Try.sizeOf141
 v46:=Try.zeroValue141
 t51:=Try.underlying200
 a51:=Try.isAgg200
 z51:=Try.sizeOf200
 v51:=Try.zeroValue200
 t53:=Try.underlying202
 a53:=Try.isAgg202
 z53:=Try.sizeOf202
 v53:=Try.zeroValue202
 t131:=Try.underlying197
 a131:=Try.isAgg197
 z131:=Try.sizeOf197
 v131:=Try.zeroValue197
 t182:=Try.underlying193
 a182:=Try.isAgg193
 z182:=Try.sizeOf193
 v182:=Try.zeroValue193
 t183:=Try.underlying194
 a183:=Try.isAgg194
 z183:=Try.sizeOf194
 v183:=Try.zeroValue194
 t218:=Try.underlying203
 a218:=Try.isAgg203
 z218:=Try.sizeOf203
 v218:=Try.zeroValue203
 t222:=Try.underlying207
 a222:=Try.isAgg207
 z222:=Try.sizeOf207
 v222:=Try.zeroValue207
 t228:=Try.underlying209
 a228:=Try.isAgg209
 z228:=Try.sizeOf209
 v228:=Try.zeroValue209
 t229:=Try.underlying210
 a229:=Try.isAgg210
 z229:=Try.sizeOf210
 v229:=Try.zeroValue210 }
open Go.Sort Go.RowKit in
theorem Try.slices_Sort_int (blk off cap:Nat) (zs:List Int) (w:World) (hH:Holds (Value.int .i64) w blk off zs.toArray) (hblk:blk < w.heap.size) (hsz:zs.length < 4611686018427387904) :
  Calls Try.prog 139 #[.slice (some ⟨blk,off,none⟩) zs.length cap] w fun e w' =>
   e = .returned (.tuple #[]) /\ ∃ n os,w'=grow (putRow (Value.int .i64) (Sort.ahead w n) blk off (zs.mergeSort fun x y=>decide (x<=y)).toArray) os:=Any.slices_Sort_int Try.lays189 blk off cap zs w hH hblk hsz
theorem Try.slices_Sort_int_none (p:Option Addr) (cap:Nat) (w:World):Calls Try.prog 139 #[.slice p 0 cap] w fun e w'=>e = .returned (.tuple #[])/\w'=w:=Any.slices_Sort_int_none Try.lays189 p cap w
end Go.Proofs
namespace Go.Sh
def sortI (l:List Int):List Int:=l.mergeSort (fun x y=>decide (x<=y))
theorem sortI_len (l:List Int):(sortI l).length=l.length:=List.length_mergeSort _
end Go.Sh
namespace Go.Ab
open Go Go.RowKit Go.Sort Go.Sh
theorem putRow_heap {α:Type} [Inhabited α] (enc:α->Value) (w:World) (q k:Nat) (ys:List α) (os:Array Obj) (us:List Value) (e:TypeId) (hw:w.heap[k]? = some (.cells us.toArray e (0,0))) (hl:ys.length<=us.length) :
  (grow (putRow enc (Sort.ahead w q) k 0 ys.toArray) os).heap[k]? = some (.cells (ys.map enc ++ us.drop ys.length).toArray e (0,0))/\w.grownBy (grow (putRow enc (Sort.ahead w q) k 0 ys.toArray) os) (some k):=by
 have hlt:k < w.heap.size:=(Array.getElem?_eq_some_iff.1 hw).1
 have hsz:(putRow enc (Sort.ahead w q) k 0 ys.toArray).heap.size=w.heap.size:=by simp [putRow,mapBlock,Sort.ahead]
 refine ⟨?_,⟨rfl,rfl,rfl,by rw [size_grow,hsz]; omega,fun j hj hne => ?_⟩⟩
 ·rw [heap_grow_old _ _ (by rw [hsz]; exact hlt)]
  show ((Sort.ahead w q).heap.modify k _)[k]? = _
  have hw':(Sort.ahead w q).heap[k]? = some (.cells us.toArray e (0,0)):=hw
  rw [Array.getElem?_modify,if_pos rfl,hw']
  simp only [Option.map_some,onCells,Option.some.injEq,Obj.cells.injEq,and_true]
  apply Array.ext_getElem?
  intro i
  simp only [putCells,Array.getElem?_mapIdx,List.getElem?_toArray,List.size_toArray,Nat.zero_le,true_and,Nat.zero_add,Nat.sub_zero]
  by_cases h1:i < ys.length
  ·rw [List.getElem?_append_left (by simpa using h1),List.getElem?_map,List.getElem?_eq_getElem h1,List.getElem?_eq_getElem (show i < us.length by omega)]
   simp only [Option.map_some,if_pos h1]
   rw [getElem!_pos _ i (by simpa using h1)]
   simp
  ·rw [List.getElem?_append_right (by simpa using h1),List.getElem?_drop]
   have:ys.length + (i - (List.map enc ys).length)=i:=by simp; omega
   rw [this]
   cases us[i]? with
   | none=>rfl
   | some u=>simp only [Option.map_some,if_neg h1]
 ·rw [heap_grow_old _ _ (by rw [hsz]; exact hj)]
  show ((Sort.ahead w q).heap.modify k _)[j]? = _
  rw [Array.getElem?_modify,if_neg (fun e=>hne (by rw [e]))]
  rfl
def rowI (t:TypeId) (l:List Int):OB := .vec t 1 l.length (fun i=>[iv (l.getD i 0)])
theorem rowI_flat {E:Env} {l:List Int} {g:Nat->List Value} (hr:∀ i,i < l.length->RelL E false [iv (l.getD i 0)] (g i)):(List.range l.length).flatMap g=l.map (Value.int .i64):=by
 have h1:∀ i,i < l.length->g i = [Value.int .i64 (l.getD i 0)]:=by
  intro i hi
  have:=hr i hi
  generalize g i=x at this
  cases this with
  | cons h _ hs=>cases hs; cases h; rfl
 refine List.ext_getElem? fun i => ?_
 have hlen:=flat_length g 1 l.length (fun i hi=>by rw [h1 i hi]; rfl)
 by_cases hi:i < l.length
 ·have:=flat_get g 1 l.length (fun i hi=>by rw [h1 i hi]; rfl) i 0 hi (by omega)
  simp only [Nat.mul_one,Nat.add_zero] at this
  rw [this,h1 i hi,List.getElem?_map,List.getElem?_eq_getElem hi]
  simp [List.getD,List.getElem?_eq_getElem hi]
 ·rw [List.getElem?_eq_none (by omega),List.getElem?_eq_none (by simpa using hi)]
theorem rowI_rel (E:Env) (l:List Int):∀ i,i < l.length->RelL E false [iv (l.getD i 0)] [Value.int .i64 (l.getD i 0)]:=fun i _ => .cons (.lit _) rfl .nil
theorem rowI_flat' (l:List Int):(List.range l.length).flatMap (fun i=>[Value.int .i64 (l.getD i 0)])=l.map (Value.int .i64):=by
 let E0:Env:=⟨fun _=>none,fun _=>none,fun _=>none,fun _ _=>False⟩
 exact rowI_flat (E:=E0) (rowI_rel E0 l)
theorem holdsI {w:World} {k:Nat} {l:List Int} {us:List Value} {e:TypeId} (hw:w.heap[k]? = some (.cells us.toArray e (0,0))) (ht:us.take l.length=l.map (Value.int .i64)):Holds (Value.int .i64) w k 0 l.toArray:=by
 intro j hj
 have hj':j < l.length:=by simpa using hj
 have h1:us[j]? = some (.int .i64 l[j]):=by
  have:=congrArg (fun x=>x[j]?) ht
  simp only [List.getElem?_take,if_pos hj',List.getElem?_map,List.getElem?_eq_getElem hj',Option.map_some] at this
  exact this
 refine ⟨?_,?_⟩
 ·rw [Nat.zero_add,getElem!_pos _ j hj]
  simp only [World.cell?,hw]
  simpa using h1
 ·simp only [World.frozen?,hw]
  rfl
theorem own_rowI {C:Ctx} {E:Env} {w:World} {b:Nat} {t:TypeId} {l:List Int} (h:OwnOB C E w b (rowI t l)) (hn:0 < l.length) :
  ∃ k cap us,E.hdr b=some (.slice (some ⟨k,0,none⟩) l.length cap)/\l.length<=cap/\cap<=maxLen/\w.heap[k]? = some (.cells (List.toArray us) t (0,0))/\us.length=cap/\us.take l.length=l.map (Value.int .i64)/\E.blk b=some k/\C.avail k/\E.M k=none:=by
 obtain ⟨hd,g,hh,ho,hl,hr,hbk,hav⟩:=h
 rcases ownsRow_form ho with ⟨_,h0⟩ | ⟨k,cap,rfl,hnc,hcm,us,hw,hul,hut⟩
 ·omega
 ·rw [Nat.mul_one] at hul hut
  rw [rowI_flat hr] at hut
  exact ⟨k,cap,us,hh,hnc,hcm,hw,hul,hut,hbk,(hav k rfl).1,(hav k rfl).2⟩
theorem ownsRow_of {w:World} {k cap:Nat} {us:List Value} {t:TypeId} {l:List Int} (hw:w.heap[k]? = some (.cells us.toArray t (0,0))) (hnc:l.length<=cap) (hcm:cap<=maxLen) (hul:us.length=cap) (hut:us.take l.length=l.map (Value.int .i64)) :
  w.ownsRow 0 t 1 (.slice (some ⟨k,0,none⟩) l.length cap) l.length ((List.range l.length).flatMap (fun i=>[Value.int .i64 (l.getD i 0)])):=by
 rw [rowI_flat']
 refine ⟨by simp,.inr ⟨k,cap,us.toArray,rfl,Nat.zero_le _,hw,hnc,hcm,by simpa using hul,by simpa using hut⟩⟩
theorem triple_sort {P:Program} {f:FuncId} (hcall:Callable P f) (t:TypeId) (b:Nat) (l:List Int)
  (h:∀ k cap w,Holds (Value.int .i64) w k 0 l.toArray->k < w.heap.size->l.length < 4611686018427387904->Calls P f #[.slice (some ⟨k,0,none⟩) l.length cap] w fun e w'=>e = .returned (.tuple #[]) /\ ∃ n os,w'=grow (putRow (Value.int .i64) (Sort.ahead w n) k 0 (sortI l).toArray) os) :
  Triple P f { args:=[.vec b],pre:=0 < l.length/\l.length<=65536,hin:=[(b,rowI t l)],res := .tup [],hout:=[(b,rowI t (sortI l))] }:=by
 refine ⟨hcall,fun hpre E w vs _ hok hlen hrel _ => ?_⟩
 obtain ⟨v,rfl⟩:∃ v,vs = [v]:=by
  match vs,hlen with
  | [v],_=>exact ⟨v,rfl⟩
 have hv:=hrel 0
 simp only [List.getD_cons_zero] at hv
 have hob:Heap.of [(b,rowI t l)] b=some (rowI t l):=by rw [Heap.of_cons,if_pos rfl]
 obtain ⟨k,cap,us,hh,hnc,hcm,hw,hul,hut,hbk,hav,hM⟩:=own_rowI (hok.own b _ hob) hpre.1
 cases hv with
 | vec _ hh' _ =>
 rw [hh] at hh'
 cases hh'
 have hlt:k < w.heap.size:=(Array.getElem?_eq_some_iff.1 hw).1
 refine (h k cap w (holdsI hw hut) hlt (by omega)).mono ?_
 rintro e w' ⟨rfl,n,os,rfl⟩
 obtain ⟨h1,hg⟩:=putRow_heap (Value.int .i64) w n k (sortI l) os us t hw (by rw [sortI_len]; omega)
 refine ⟨_,E,rfl,?_,.tup rfl (fun k=>by simp; exact .any _),fun _ _=>⟨rfl,rfl⟩⟩
 have:=hok.setVec b k (by rw [hob]; simp) hbk hav hM hg (rowI t (sortI l)) ?_
 ·refine this.drop fun i ob hi => ?_
  rw [Heap.of_cons] at hi
  split at hi
  ·rename_i e; cases hi; unfold Heap.put; rw [if_pos e.symm]
  ·cases hi
 ·refine ⟨_,fun i=>[Value.int .i64 ((sortI l).getD i 0)],hh,?_,fun _ _=>rfl,rowI_rel E _,hbk,fun k' hk' => ?_⟩
  ·have:=ownsRow_of (l:=sortI l) (cap:=cap) h1 (by rw [sortI_len]; exact hnc) hcm (by simp [sortI_len,hul]; omega) (by rw [List.take_append_of_le_length (by rw [List.length_map]; exact Nat.le_refl _)]; exact List.take_of_length_le (by rw [List.length_map]; exact Nat.le_refl _))
   rw [sortI_len] at this ⊢
   exact this
  ·cases hk'; exact ⟨hav,hM⟩
end Go.Ab
namespace Go.Ab
open Go Go.RowKit Go.Sort Go.Sh
theorem triple_sort0 {P:Program} {f:FuncId} (hcall:Callable P f) (t:TypeId) (b:Nat) (l:List Int)
  (h:∀ k cap w,Holds (Value.int .i64) w k 0 l.toArray->k < w.heap.size->l.length < 4611686018427387904->Calls P f #[.slice (some ⟨k,0,none⟩) l.length cap] w fun e w'=>e = .returned (.tuple #[]) /\ ∃ n os,w'=grow (putRow (Value.int .i64) (Sort.ahead w n) k 0 (l.mergeSort fun x y=>decide (x<=y)).toArray) os)
  (h0:∀ p cap w,Calls P f #[.slice p 0 cap] w fun e w'=>e = .returned (.tuple #[])/\w'=w) :
  Triple P f { args:=[.vec b],pre:=l.length<=65536,hin:=[(b,rowI t l)],res := .tup [],hout:=[(b,rowI t (sortI l))] }:=by
 refine ⟨hcall,fun hpre E w vs hfn hok hlen hrel hfr => ?_⟩
 cases l with
 | cons x l=>exact (triple_sort hcall t b (x :: l) h).2 ⟨Nat.succ_pos _,hpre⟩ E w vs hfn hok hlen hrel hfr
 | nil =>
  obtain ⟨v,rfl⟩:∃ v,vs = [v]:=by
   match vs,hlen with
   | [v],_=>exact ⟨v,rfl⟩
  have hv:=hrel 0
  simp only [List.getD_cons_zero] at hv
  have hob:Heap.of [(b,rowI t [])] b=some (rowI t []):=by rw [Heap.of_cons,if_pos rfl]
  have hown:=hok.own b _ hob
  have hs:sortI [] = []:=by simp [sortI]
  have fin:∀ u,E.hdr b=some u->Calls P f #[u] w (fun e w'=>e = .returned (.tuple #[])/\w'=w)->Calls P f #[v] w (CallPost P { args:=[.vec b],pre:=([]:List Int).length<=65536,hin:=[(b,rowI t [])],res := .tup [],hout:=[(b,rowI t (sortI []))] } E w):=by
   intro u hu hc
   cases hv with
   | vec _ hh' _ =>
   rw [hu] at hh'
   cases hh'
   refine hc.mono ?_
   rintro e w' ⟨rfl,rfl⟩
   exact ⟨_,E,rfl,by rw [hs]; exact hok,.tup rfl (fun k=>by simp; exact .any _),fun _ _=>⟨rfl,rfl⟩⟩
  obtain ⟨hd,g,hh,ho,_⟩:=hown
  rcases ownsRow_form ho with ⟨hv',_⟩ | ⟨k,cap,hv',_⟩
  ·exact fin hd hh (by rw [hv']; exact h0 none 0 w)
  ·exact fin hd hh (by rw [hv']; exact h0 _ cap w)
end Go.Ab
namespace Go.Ab
open Go Go.RowKit Go.Proofs Go.Sh Go.En
def s139 (b:Nat) (l:List Int):CallSpec:={ args:=[.vec b],pre:=l.length<=65536,hin:=[(b,rowI 3 l)],res := .tup [],hout:=[(b,rowI 3 (sortI l))] }
theorem t139 (b:Nat) (l:List Int):Triple Try.prog 139 (s139 b l):=triple_sort0 Try.call139 3 b l (fun k cap w h1 h2 h3=>Try.slices_Sort_int k 0 cap l w h1 h2 h3) (fun p cap w=>Try.slices_Sort_int_none p cap w)
end Go.Ab
namespace Go.Sh
structure Strip where
 thick:Int
 many:Int
 deriving DecidableEq,Inhabited
structure Piece where
 lo:Int
 hi:Int
 pence:Int
 deriving DecidableEq,Inhabited
structure Frm where
 length:Int
 slack:Int
 strips:List Strip
 pieces:List Piece
 columns:List (List Int)
 deriving DecidableEq,Inhabited
def stp (f:Frm) (i:Nat):Strip:=f.strips.getD i default
def pc (f:Frm) (i:Nat):Piece:=f.pieces.getD i default
def col (f:Frm) (i:Nat):List Int:=f.columns.getD i []
def allC (f:Frm):List Int:=f.columns.flatten
def ptTo (f:Frm) (set:List Int) (n:Nat):Int:=(List.range n).foldl (fun a i=>a + set.getD i 0 * (stp f i).thick) 0
def pointsP (f:Frm) (set:List Int):Int:=ptTo f set set.length
def pre95 (f:Frm) (n k:Nat):List Int:=(f.columns.take n).flatten ++ (col f n).take k
structure Sound (f:Frm):Prop where
 len:0<=f.length/\f.length<=300
 slack:0<=f.slack/\f.slack<=9
 strips:f.strips.length<=3
 pieces:f.pieces.length<=6
 columns:f.columns.length<=3
 strip:∀ i,i < f.strips.length->1<=(stp f i).thick/\(stp f i).thick<=30/\0<=(stp f i).many/\(stp f i).many<=4
 piece:∀ i,i < f.pieces.length->0<=(pc f i).lo/\(pc f i).lo<=(pc f i).hi/\(pc f i).hi<=99/\0<=(pc f i).pence/\(pc f i).pence<=99
 colLen:∀ i,(col f i).length<=6
 colIn:∀ i k,k < (col f i).length->0<=(col f i).getD k 0/\(col f i).getD k 0 < f.pieces.length
end Go.Sh
namespace Go.En
open Go Go.Ab Go.Sh
end Go.En
namespace Go.Ab
open Go Go.RowKit Go.Proofs Go.Sh Go.En
def r141 (f:Frm):RangeH:={ J:=Nat × Nat,ok:=fun j=>j.1 < f.columns.length/\j.2 < (col f j.1).length,Y:=fun j=>{ args:=[iv ((col f j.1).getD j.2 0)],hin:=[(0,.cells 26 [.vec 5000]),(5000,rowI 3 (pre95 f j.1 j.2))],res:=bv true,hout:=[(0,.cells 26 [.vec 20160]),(20160,rowI 3 (pre95 f j.1 (j.2 + 1)))] },hp:=[(0,.cells 26 [.vec 5000]),(5000,rowI 3 (allC f))] }
def y141 (f:Frm) (x k:Nat):CallSpec:=(r141 f).Y (x,k)
end Go.Ab
namespace Go.Sh
open Go.Ab
end Go.Sh
namespace Go.Ab
open Go Go.RowKit Go.Proofs Go.Sh Go.En
end Go.Ab
namespace Go.Sh
end Go.Sh
namespace Go.Sh
open Go Go.Ab Go.En
theorem inI_div2 {w:Int} {n:Nat} (h:0<=w) (h1:w<=1000):inI (w / 2 ^ n):=by
 have h2:0<=w / 2 ^ n:=Int.ediv_nonneg h (Int.le_of_lt (Int.pow_pos (by omega)))
 have h3:w / 2 ^ n<=w:=Int.ediv_le_self _ h
 constructor <;> omega
def bitP (w:Int) (p:Int):Bool:=decide (w / 2 ^ p.toNat % 2=1)
end Go.Sh
namespace Go.Ab
open Go Go.RowKit Go.Proofs Go.Sh Go.En
abbrev rowN (l:List Int):OB:=rowI 3 l
def ou93 (ws:List Int):OutSpec:={ args:=[aInts ws],pre:=0 < ws.length/\ws.length<=60000,res := .vec 0,hout:=[(0,rowN ws)] }
def ou93n:OutSpec:={ args:=[nilv],res := .vec 0,hout:=[(0,rowN [])] }
def ou93e (a:Addr) (c:Nat):OutSpec:={ args:=[.lit (.slice (some a) 0 c)],res := .vec 0,hout:=[(0,rowN [])] }
def s93o (l:List Int) (id:Nat):CallSpec:={ args:=[aInts l],pre:=l.length<=60000,res := .vec id,hout:=[(id,rowN l)] }
end Go.Ab
namespace Go.Ab
open Go Go.RowKit Go.Proofs Go.Sh Go.En
theorem wo93 (ws:List Int)
  (o0:0 < ws.length/\ws.length<=60000->0 + ws.length<=65536)
  (o1:0 < ws.length/\ws.length<=60000->0 + ws.length=ws.length)
  (l:List (Nat × Nat)) (hl:l.map (·.1)=(OutSpec.hout (ou93 ws)).map (·.1)) (hnd:(l.map (·.2)).Nodup) :
  Triple Try.prog 93 (OutSpec.at (ou93 ws) l):=by
 refine triple_out Try.func93 rfl Try.call93 T0_ok _ _ _ _ l rfl (Nat.le_of_ble_eq_true (by kernel_rfl)) hl hnd (by kernel_rfl) (by kernel_rfl) (by kernel_rfl) ?_
 intro hpre C hC hE
 obtain ⟨P,w0,E0,av,hA,ro,df⟩:=C
 obtain ⟨rfl,rfl,rfl⟩:=hC
 refine swp_seq ?_
 refine zR [0] [] (Ak 1 tv) ?_
 refine swp_seq ?_
 refine swp_seq ?_
 refine zR [0,4] [] (Ak 1 (An hpre.1 tv)) ?_
 refine zf ?_
 refine swp_skip ?_
 refine swp_seq ?_
 refine zR [2] [40] (Ak 2 (An (o0 hpre) (Ak 1 tv))) ?_
 refine swp_ret ?_
 exact zO (ASt.mk [(2,AV.vec 0)] [(0,OB.vec 3 1 ws.length fun (i:Nat)=>[iv (ws.getD i 0)])] 100) (zE hE [] [(0,.same 40)] [] [] (An (An (zr (some (Src.same 40))) tv) (An (An (An (zr 3) (An (zr 1) (An (o1 hpre) (fun (i0:Nat)=>(fun (y1:i0 < 0 + ws.length)=>(zr ([iv (ws.getD i0 0)]))))))) tv) (An (zr true) (zr true))))) (An (Ak 1 tv) (An (zr (AV.vec 0)) (An (zr (some (OB.vec 3 1 ws.length fun (i:Nat)=>[iv (ws.getD i 0)]))) tv)))
theorem wo93n 
  (l:List (Nat × Nat)) (hl:l.map (·.1)=(OutSpec.hout (ou93n)).map (·.1)) (hnd:(l.map (·.2)).Nodup) :
  Triple Try.prog 93 (OutSpec.at (ou93n) l):=by
 refine triple_out Try.func93 rfl Try.call93 T0_ok _ _ _ _ l rfl (Nat.le_of_ble_eq_true (by kernel_rfl)) hl hnd (by kernel_rfl) (by kernel_rfl) (by kernel_rfl) ?_
 intro _ C hC hE
 obtain ⟨P,w0,E0,av,hA,ro,df⟩:=C
 obtain ⟨rfl,rfl,rfl⟩:=hC
 refine swp_seq ?_
 refine zR [0] [] (Ak 1 tv) ?_
 refine swp_seq ?_
 refine swp_seq ?_
 refine zR [0,4] [] (Ak 2 tv) ?_
 refine zt ?_
 refine swp_seq ?_
 refine zR [2] [] (Ak 1 tv) ?_
 refine swp_ret ?_
 exact zO (ASt.mk [(2,AV.vec 0)] [(0,OB.vec 3 1 0 fun (i:Nat)=>[iv (List.getD [] i 0)])] 100) (zE hE [] [(0,.nil)] [] [] (An (An (zr (some Src.nil)) tv) (An (An (zr 0) tv) (An (zr true) (zr true))))) (An (Ak 1 tv) (An (zr (AV.vec 0)) (An (zr (some (OB.vec 3 1 0 fun (i:Nat)=>[iv (List.getD [] i 0)]))) tv)))
theorem wo93e (a:Addr) (c:Nat)
  (o0:∀ (i0:Nat),i0 < 0->nilA = [iv (List.getD [] i0 0)])
  (l:List (Nat × Nat)) (hl:l.map (·.1)=(OutSpec.hout (ou93e a c)).map (·.1)) (hnd:(l.map (·.2)).Nodup) :
  Triple Try.prog 93 (OutSpec.at (ou93e a c) l):=by
 refine triple_out Try.func93 rfl Try.call93 T0_ok _ _ _ _ l rfl (Nat.le_of_ble_eq_true (by kernel_rfl)) hl hnd (by kernel_rfl) (by kernel_rfl) (by kernel_rfl) ?_
 intro _ C hC hE
 obtain ⟨P,w0,E0,av,hA,ro,df⟩:=C
 obtain ⟨rfl,rfl,rfl⟩:=hC
 refine swp_seq ?_
 refine zR [0] [] (Ak 1 tv) ?_
 refine swp_seq ?_
 refine swp_seq ?_
 refine zR [0,4] [] (Ak 2 tv) ?_
 refine zf ?_
 refine swp_skip ?_
 refine swp_seq ?_
 refine zR [2] [40] (Ak 2 (An (by decide:0 + 0<=65536) (Ak 1 tv))) ?_
 refine swp_ret ?_
 exact zO (ASt.mk [(2,AV.vec 0)] [(0,OB.vec 3 1 0 fun (i:Nat)=>[iv (List.getD [] i 0)])] 100) (zE hE [] [(0,.same 40)] [] [] (An (An (zr (some (Src.same 40))) tv) (An (An (An (zr 3) (An (zr 1) (An (zr 0) (fun (i0:Nat)=>(fun (y1:i0 < 0)=>(o0 i0 y1)))))) tv) (An (zr true) (zr true))))) (An (Ak 1 tv) (An (zr (AV.vec 0)) (An (zr (some (OB.vec 3 1 0 fun (i:Nat)=>[iv (List.getD [] i 0)]))) tv)))
theorem t93o (ws:List Int) (id:Nat):Triple Try.prog 93 (s93o ws id):=by
 have t0:=wo93n (l:=[(0,id)]) (hl:=rfl) (hnd:=by simp)
 refine ⟨t0.1,fun hp E w vs hf hh hl hr hq => ?_⟩
 cases ws with
 | nil =>
  have key:∀ v,vs.getD 0 undef=v -> ∀ k,Rel E true (([.lit v]:List AV).getD k .any) (vs.getD k undef):=fun v e k=>by
   cases k with
   | zero=>rw [e]; exact .lit v
   | succ k=>exact .any _
  have h0:=hr 0
  change Rel E true (.sl 1 0 _) (vs.getD 0 undef) at h0
  generalize e:vs.getD 0 undef=v at h0
  cases h0 with
  | slN=>exact t0.2 trivial E w vs hf hh hl (key _ e) hq
  | slA=>exact (wo93e _ _ (fun _ h=>absurd h (by omega)) (l:=[(0,id)]) (hl:=rfl) (hnd:=by simp)).2 trivial E w vs hf hh hl (key _ e) hq
  | slZ=>exact (wo93e _ _ (fun _ h=>absurd h (by omega)) (l:=[(0,id)]) (hl:=rfl) (hnd:=by simp)).2 trivial E w vs hf hh hl (key _ e) hq
 | cons a ws =>
  refine (wo93 (a :: ws) (l:=[(0,id)]) ?_ ?_ (hl:=rfl) (hnd:=by simp)).2 ⟨Nat.succ_pos _,hp⟩ E w vs hf hh hl hr hq
  all_goals ((repeat intro _) <;> (try simp only [Bool.cond_true_left,Bool.cond_false_right,Bool.not_not,Bool.not_eq_true',Bool.not_eq_false',Bool.or_eq_true,Bool.or_eq_false_iff,Bool.and_eq_true,decide_eq_true_eq,decide_eq_false_iff_not,inI,big] at *) <;> first | (exact rfl) | omega | (exact ⟨Nat.zero_le _,fun j hj=>absurd hj (Nat.not_lt_zero j)⟩) | (simp_all; done) | (simp_all; omega))
theorem rec_ei {α:Type} {i j:Nat} {a:¬ i=j->α} {b:i=j->α} {c:α} (h1:∀ h,a h=c) (h2:∀ h,b h=c):(Decidable.rec a b (instDecidableEqNat i j):α)=c:=by
 cases instDecidableEqNat i j with
 | isTrue h=>exact h2 h
 | isFalse h=>exact h1 h
end Go.Ab
namespace Go.Sh
open Go.Ab
def prodL:List Int->Nat
 | []=>1
 | a :: ws=>(a.toNat + 1) * prodL ws
def setN:List Int->Nat->List Int
 | [],_=>[]
 | _ :: ws,i=>((i / prodL ws:Nat):Int) :: setN ws (i % prodL ws)
def restL (left set:List Int):List Int:=(List.range left.length).map fun q=>left.getD q 0 - set.getD q 0
abbrev Lay:=Option (List (List Int) × Int)
def sumTo (set:List Int) (n:Nat):Int:=(List.range n).foldl (fun a i=>a + set.getD i 0) 0
def sumS (set:List Int):Int:=sumTo set set.length
def layS (b:Lay):List (List Int):=match b with | some x=>x.1 | none=>[]
def layM (b:Lay):Int:=match b with | some x=>x.2 | none=>0
def betterL (m:Int) (b:Lay):Bool:=match b with | none=>true | some x=>decide (m < x.2)
def stepL (f:Frm) (r:Span) (g:List Int->Lay) (left:List Int) (b:Lay) (i:Nat):Lay :=
 if within (pointsP f (setN left i)) r.lo r.hi then
  match g (restL left (setN left i)) with
  | none=>b
  | some x=>if betterL (sumS (setN left i) + x.2) b then some (setN left i :: x.1,sumS (setN left i) + x.2) else b
 else b
def lockP (f:Frm):List Span->List Int->Lay
 | [],_=>some ([],0)
 | r :: rs,left=>(List.range (prodL left)).foldl (stepL f r (lockP f rs) left) none
def bestP (f:Frm) (rooms:List Span) (left:List Int) (n:Nat):Lay:=(List.range n).foldl (stepL f (rooms.getD 0 ⟨0,0⟩) (lockP f (rooms.drop 1)) left) none
theorem prodL_pos:∀ left:List Int,0 < prodL left
 | []=>Nat.one_pos
 | _ :: ws=>Nat.mul_pos (Nat.succ_pos _) (prodL_pos ws)
theorem setN_in:∀ {left:List Int},(∀ q,q < left.length->0<=left.getD q 0) -> ∀ {i:Nat},i < prodL left -> ∀ q,q < left.length->0<=(setN left i).getD q 0/\(setN left i).getD q 0<=left.getD q 0:=by
 intro left
 induction left with
 | nil=>intro _ i _ q hq; exact absurd hq (Nat.not_lt_zero _)
 | cons a ws ih =>
  intro h i hi q hq
  rw [setN]
  cases q with
  | zero =>
   have h0:0<=a:=h 0 (Nat.succ_pos _)
   have h1:i / prodL ws < a.toNat + 1:=Nat.div_lt_of_lt_mul (by rw [Nat.mul_comm]; exact hi)
   show 0<=((i / prodL ws:Nat):Int)/\((i / prodL ws:Nat):Int)<=a
   generalize i / prodL ws=d at h1 ⊢
   constructor <;> omega
  | succ q=>exact ih (fun q hq=>h (q + 1) (Nat.succ_lt_succ hq)) (Nat.mod_lt _ (prodL_pos ws)) q (Nat.lt_of_succ_lt_succ hq)
structure GoodLeft (f:Frm) (left:List Int):Prop where
 len:left.length=f.strips.length
 pos:∀ q,q < left.length->0<=left.getD q 0/\left.getD q 0<=(stp f q).many
theorem restL_len (left set:List Int):(restL left set).length=left.length:=by unfold restL; rw [List.length_map,List.length_range]
theorem restL_get {left set:List Int} {q:Nat} (h:q < left.length):(restL left set).getD q 0=left.getD q 0 - set.getD q 0:=by
 unfold restL
 rw [getD_lt _ _ (by rw [List.length_map,List.length_range]; exact h),List.getElem_map,List.getElem_range]
end Go.Sh
namespace Go.En
open Go Go.Ab Go.Sh
def cLay (b:Lay):List AV:=[aIntss (layS b),iv (layM b)]
abbrev vLay (b:Lay):AV := .opt b.isSome (cLay b)
end Go.En
namespace Go.Ab
open Go Go.RowKit Go.Proofs Go.Sh Go.En
abbrev bestB3 (f:Frm) (rooms:List Span) (left:List Int) (i:Nat):OB := .cells 115 [vLay (bestP f rooms left i)]
def r97 (f:Frm) (rooms:List Span) (left:List Int):RangeH:={ J:=Nat,ok:=fun i=>i < prodL left,Y:=fun i=>{ args:=[.vec 5000],hin:=[(56,bestB3 f rooms left i),(5000,rowI 3 (setN left i))],res:=bv true,hout:=[(56,bestB3 f rooms left (i + 1)),(5000,rowI 3 (setN left i))] },hp:=[(56,bestB3 f rooms left (prodL left))] }
def y97 (f:Frm) (rooms:List Span) (left:List Int) (i:Nat):CallSpec:=(r97 f rooms left).Y i
end Go.Ab
namespace Go.Sh
open Go.Ab
variable {f:Frm} {left:List Int} {rooms:List Span}
theorem GoodLeft.nonneg (h:GoodLeft f left):∀ q,q < left.length->0<=left.getD q 0:=fun q hq=>(h.pos q hq).1
theorem GoodLeft.set (h:GoodLeft f left) {j:Nat} (hj:j < prodL left) (q:Nat) (hq:q < left.length):0<=(setN left j).getD q 0/\(setN left j).getD q 0<=left.getD q 0:=setN_in h.nonneg hj q hq
theorem GoodLeft.rest (h:GoodLeft f left) {j:Nat} (hj:j < prodL left):GoodLeft f (restL left (setN left j)):=by
 refine ⟨by rw [restL_len,h.len],fun q hq => ?_⟩
 rw [restL_len] at hq
 rw [restL_get hq]
 have h1:=h.set hj q hq
 have h2:=h.pos q hq
 omega
end Go.Sh
namespace Go.Ab
open Go Go.RowKit Go.Proofs Go.Sh Go.En
end Go.Ab
namespace Go.Sh
open Go.Ab
end Go.Sh
namespace Go.Ab
open Go Go.RowKit Go.Proofs Go.Sh Go.En
end Go.Ab
namespace Go.Sh
open Go.Ab
variable {f:Frm}
theorem nt_ {b:Bool} (h:b=false):¬ b=true:=by rw [h]; exact Bool.false_ne_true
end Go.Sh
namespace Go.Ab
open Go Go.RowKit Go.Proofs Go.Sh Go.En
end Go.Ab
namespace Go.Sh
open Go.Ab
def cmpW (a b:Int):Int:=if a < b then -1 else if b < a then 1 else 0
def cmpL:List Int->List Int->Int
 | [],[]=>0
 | [],_ :: _ => -1
 | _ :: _,[]=>1
 | x :: xs,y :: ys=>if cmpW x y=0 then cmpL xs ys else cmpW x y
def orI (l:List Int):Int:=(l.find? fun w => !decide (w=0)).getD 0
def outTo (w:Int) (k:Nat):List Int:=(List.range k).filterMap fun (i:Nat)=>if bitP w (i:Int) then some (i:Int) else none
abbrev Out:=Option (List Int × Int)
def outL (b:Out):List Int:=match b with | some x=>x.1 | none=>[]
def outN (b:Out):Int:=match b with | some x=>x.2 | none=>0
end Go.Sh
namespace Go.Ab
open Go Go.RowKit Go.Proofs Go.Sh Go.En
def s136 (a:Int):CallSpec:={ args:=[iv a],res:=bv false }
def s114 (a b:Int):CallSpec:={ args:=[iv a,iv b],res:=iv (cmpW a b) }
def s82 (a b:List Int):CallSpec:={ args:=[aInts a,aInts b],res:=iv (cmpL a b),pre:=a.length<=65536/\b.length<=65536 }
def h82 (a b:List Int):Hint:={ X:=Nat,M:=fun i=>[(11,iv i)],I:=fun i=>i<=a.length/\i<=b.length /\ ∀ j,j < i->a.getD j 0=b.getD j 0,mu:=fun i=>a.length - i,x0:=(0:Nat),nx:=fun i=>i + 1 }
def s81 (ws:List Int):CallSpec:={ args:=[aInts ws],res:=iv (orI ws),pre:=ws.length<=65536 }
def h81 (ws:List Int):Hint:={ X:=Nat,M:=fun i=>[(8,iv i)],I:=fun i=>i<=ws.length /\ ∀ j,j < i->ws.getD j 0=0,mu:=fun i=>ws.length - i,x0:=(0:Nat),nx:=fun i=>i + 1 }
end Go.Ab
namespace Go.Sh
open Go.Ab
variable {f:Frm}
theorem cmpW_zero {a b:Int} (h:cmpW a b=0):a=b:=by
 unfold cmpW at h
 split at h
 ·cases h
 ·split at h
  ·cases h
  ·omega
theorem cmpW_same (a:Int):cmpW a a=0:=by unfold cmpW; rw [if_neg (by omega),if_neg (by omega)]
theorem cmpL_at:∀ (i:Nat) (a b:List Int),i<=a.length->i<=b.length->(∀ j,j < i->a.getD j 0=b.getD j 0)->cmpL a b=cmpL (a.drop i) (b.drop i):=by
 intro i
 induction i with
 | zero=>intro a b _ _ _; rfl
 | succ i ih =>
  intro a b ha hb h
  match a,b,ha,hb,h with
  | x :: xs,y :: ys,ha,hb,h =>
   have e:x=y:=h 0 (Nat.succ_pos _)
   subst e
   rw [cmpL,if_pos (cmpW_same x)]
   exact ih xs ys (Nat.le_of_succ_le_succ ha) (Nat.le_of_succ_le_succ hb) (fun j hj=>h (j + 1) (Nat.succ_lt_succ hj))
theorem dropI_cons {l:List Int} {i:Nat} (h:i < l.length):l.drop i=l.getD i 0 :: l.drop (i + 1):=by
 rw [List.drop_eq_getElem_cons h,getD_lt _ _ h]
theorem dropI_nil {l:List Int} {i:Nat} (h:l.length<=i):l.drop i = []:=List.drop_eq_nil_of_le h
theorem orI_hit {l:List Int} {x:Nat} (hx:x < l.length) (h:∀ j,j < x->l.getD j 0=0) (hn:l.getD x 0 ≠ 0):orI l=l.getD x 0:=by
 have e:orI l=(((l.take x ++ l.drop x).find? fun w => !decide (w=0))).getD 0:=by rw [List.take_append_drop]; rfl
 have hz:(l.take x).find? (fun w => !decide (w=0))=none:=by
  rw [List.find?_eq_none]
  intro w hw
  obtain ⟨i,hi,e⟩:=List.getElem_of_mem hw
  rw [List.length_take] at hi
  have:=h i (by omega)
  rw [getD_lt _ _ (by omega)] at this
  rw [List.getElem_take] at e
  rw [← e,this]; decide
 rw [e,List.find?_append,hz,dropI_cons hx,List.find?_cons_of_pos (by simpa using hn)]
 rfl
theorem orI_zero {l:List Int} (h:∀ j,j < l.length->l.getD j 0=0):orI l=0:=by
 have hz:l.find? (fun w => !decide (w=0))=none:=by
  rw [List.find?_eq_none]
  intro w hw
  obtain ⟨i,hi,e⟩:=List.getElem_of_mem hw
  have:=h i hi
  rw [getD_lt _ _ hi,e] at this
  rw [this]; decide
 unfold orI; rw [hz]; rfl
theorem out_t {w:Int} {k:Nat} (h:bitP w (k:Int)=true):outTo w (k + 1)=outTo w k ++ [(k:Int)]:=by
 unfold outTo; rw [List.range_succ,List.filterMap_append]
 congr 1
 rw [List.filterMap_cons_some (b:=(k:Int)) (by rw [if_pos h])]; rfl
theorem out_f {w:Int} {k:Nat} (h:bitP w (k:Int)=false):outTo w (k + 1)=outTo w k:=by
 unfold outTo; rw [List.range_succ,List.filterMap_append,List.filterMap_cons_none (by rw [if_neg (nt_ h)])]
 exact List.append_nil _
theorem out_len (w:Int) (k:Nat):(outTo w k).length<=k:=by
 unfold outTo; exact Nat.le_trans (List.length_filterMap_le _ _) (by rw [List.length_range]; exact Nat.le_refl _)
theorem pow_cast (n:Nat):(1 * 2 ^ n:Int)=((2 ^ n:Nat):Int):=by simp
end Go.Sh
namespace Go.Ab
open Go Go.RowKit Go.Proofs Go.Sh Go.En
theorem w136 (a:Int)
  (o0:(!decide (a=a))=false) :
  Triple Try.prog 136 (s136 a):=by
 refine triple_of Try.func136 rfl Try.call136 T0_ok _ rfl rfl rfl rfl (Nat.le_of_ble_eq_true (by kernel_rfl)) (fun _ _ _ _ h=>h) ?_
 intro _ C hC _ hE
 obtain ⟨P,w0,E0,av,hA,ro,df⟩:=C
 obtain ⟨rfl,rfl,rfl⟩:=hC
 refine swp_seq ?_
 refine zR [0] [] (Ak 1 tv) ?_
 refine swp_seq ?_
 refine zR [2] [] (Ak 4 tv) ?_
 refine swp_ret ?_
 exact zT [] (An (Ak 1 tv) (An (An (cb (o0)) (zr nilN)) (An (zr true) (An (zr true) (zr true)))))
theorem t136 (a:Int):Triple Try.prog 136 (s136 a):=by
 apply w136
 all_goals simp
theorem w114 (a:Int) (b:Int)
  (o0:decide (a < b)=true -> -1=cmpW a b)
  (o1:decide (a < b)=false->decide (b < a)=true->1=cmpW a b)
  (o2:decide (a < b)=false->decide (b < a)=false->0=cmpW a b) :
  Triple Try.prog 114 (s114 a b):=by
 refine triple_of Try.func114 rfl Try.call114 T0_ok _ rfl rfl rfl rfl (Nat.le_of_ble_eq_true (by kernel_rfl)) (fun _ _ _ _ h=>h) ?_
 intro _ C hC _ hE
 obtain ⟨P,w0,E0,av,hA,ro,df⟩:=C
 obtain ⟨rfl,rfl,rfl⟩:=hC
 refine swp_seq ?_
 refine zR [0,1] [] (Ak 1 tv) ?_
 refine swp_seq ?_
 refine zC ([(1,CallSpec.eq (s136 a) [true])]) [0,1,5] [] (Ak 1 (An (An (An (zr (iv a)) tv) (An (t136 (a)) (Ak 2 (fun (i0:Env)=>tv)))) (Ak 1 tv))) ?_
 refine swp_seq ?_
 refine zC ([(1,CallSpec.eq (s136 b) [true])]) [0,1,5,6] [] (Ak 1 (An (An (An (zr (iv b)) tv) (An (t136 (b)) (Ak 2 (fun (i1:Env)=>tv)))) (Ak 1 tv))) ?_
 refine swp_seq ?_
 refine swp_seq ?_
 refine zR [0,1,6,11] [] (Ak 1 tv) ?_
 refine zf ?_
 refine swp_skip ?_
 refine swp_seq ?_
 refine swp_seq ?_
 refine zR [0,1,13] [] (Ak 1 tv) ?_
 refine zf ?_
 refine swp_skip ?_
 refine swp_seq ?_
 refine swp_seq ?_
 refine zR [0,1,16] [] (Ak 3 tv) ?_
 refine zI (decide (a < b)) (fun y2 => ?_) (fun y2 => ?_)
 ·refine swp_seq ?_
  refine zR [4] [] (Ak 1 tv) ?_
  refine swp_ret ?_
  exact zT [] (An (Ak 1 tv) (An (An (ci (o0 y2)) (zr nilN)) (An (zr true) (An (zr true) (zr true)))))
 ·refine swp_skip ?_
  refine swp_seq ?_
  refine swp_seq ?_
  refine zR [19] [] (Ak 3 tv) ?_
  refine zI (decide (b < a)) (fun y3 => ?_) (fun y3 => ?_)
  ·refine swp_seq ?_
   refine zR [4] [] (Ak 1 tv) ?_
   refine swp_ret ?_
   exact zT [] (An (Ak 1 tv) (An (An (ci (o1 y2 y3)) (zr nilN)) (An (zr true) (An (zr true) (zr true)))))
  ·refine swp_skip ?_
   refine swp_seq ?_
   refine zR [4] [] (Ak 1 tv) ?_
   refine swp_ret ?_
   exact zT [] (An (Ak 1 tv) (An (An (ci (o2 y2 y3)) (zr nilN)) (An (zr true) (An (zr true) (zr true)))))
theorem t114 (a b:Int):Triple Try.prog 114 (s114 a b):=by
 apply w114
 all_goals (intros; simp_all [cmpW])
 all_goals (rw [if_neg (by omega),if_neg (by omega)])
abbrev qb (a:List Int) (b:List Int) (Pq:Prop):Prop:=a.length<=65536/\b.length<=65536->Pq
abbrev qc (a:List Int) (b:List Int) (x0:Nat) (Pq:Prop):Prop:=(x0<=a.length/\x0<=b.length /\ ∀ (j:Nat),j < x0->a.getD j 0=b.getD j 0)->Pq
abbrev qd (a:List Int) (b:List Int) (x0:Nat) (Pq:Prop):Prop:=qc a b x0 (decide ((x0:Int) < (↑(a.length):Int))=true->Pq)
abbrev qe (a:List Int) (b:List Int) (x0:Nat) (Pq:Prop):Prop:=qd a b x0 (decide ((↑(b.length):Int)<=(x0:Int))=false->Pq)
abbrev qf (a:List Int) (b:List Int) (x0:Nat) (Pq:Prop):Prop:=qe a b x0 ((!decide (cmpW (a.getD x0 0) (b.getD x0 0)=0))=false->Pq)
theorem w82 (a:List Int) (b:List Int)
 (o0:qb a b (0=(↑0:Int)))
 (o1:qb a b (0<=a.length/\0<=b.length /\ ∀ (j:Nat),j < 0->a.getD j 0=b.getD j 0))
 (o2:qb a b (∀ (x0:Nat),qd a b x0 (0<=(x0:Int))))
 (o3:qb a b (∀ (x0:Nat),qd a b x0 ((x0:Int) < (↑(a.length):Int))))
 (o4:qb a b (∀ (x0:Nat),qd a b x0 (decide ((↑(b.length):Int)<=(x0:Int))=true->1=cmpL a b)))
 (o5:qb a b (∀ (x0:Nat),qe a b x0 (0<=(x0:Int))))
 (o6:qb a b (∀ (x0:Nat),qe a b x0 ((x0:Int) < (↑(b.length):Int))))
 (o7:qb a b (∀ (x0:Nat),qe a b x0 ((!decide (cmpW (a.getD x0 0) (b.getD x0 0)=0))=true->cmpW (a.getD x0 0) (b.getD x0 0)=cmpL a b)))
 (o8:qb a b (∀ (x0:Nat),qf a b x0 (inI ((x0:Int) + 1))))
 (o9:qb a b (∀ (x0:Nat),qf a b x0 ((x0:Int) + 1=(↑(x0 + 1):Int))))
 (o10:qb a b (∀ (x0:Nat),qf a b x0 (x0 + 1<=a.length/\x0 + 1<=b.length /\ ∀ (j:Nat),j < x0 + 1->a.getD j 0=b.getD j 0)))
 (o11:qb a b (∀ (x0:Nat),qf a b x0 (a.length - (x0 + 1) < a.length - x0)))
 (o12:qb a b (∀ (x0:Nat),qc a b x0 (decide ((x0:Int) < (↑(a.length):Int))=false->decide ((↑(a.length):Int) < (↑(b.length):Int))=true -> -1=cmpL a b)))
 (o13:qb a b (∀ (x0:Nat),qc a b x0 (decide ((x0:Int) < (↑(a.length):Int))=false->decide ((↑(a.length):Int) < (↑(b.length):Int))=false->0=cmpL a b))) :
  Triple Try.prog 82 (s82 a b):=by
 refine triple_of Try.func82 rfl Try.call82 T0_ok _ rfl rfl rfl rfl (Nat.le_of_ble_eq_true (by kernel_rfl)) (fun _ _ _ _ h=>h) ?_
 intro hpre C hC _ hE
 obtain ⟨P,w0,E0,av,hA,ro,df⟩:=C
 obtain ⟨rfl,rfl,rfl⟩:=hC
 refine swp_seq ?_
 refine zR [0,1] [] (Ak 1 tv) ?_
 refine swp_seq ?_
 refine swp_seq ?_
 refine zR [0,1,9,10,11] [] (Ak 3 tv) ?_
 refine swp_block ?_
 refine zL (Hint.ann (h82 a b) [(0,aInts a),(1,aInts b),(9,aInts a),(10,iv (↑(a.length):Int))] [] 10032) (zE hE [] [] [0,1,9,10] [] (An (An (An (zr (aInts a)) (zr true)) (An (An (zr (aInts b)) (zr true)) (An (An (zr (aInts a)) (zr true)) (An (An (zr (iv (↑(a.length):Int))) (zr true)) (An (An (ci (o0 hpre)) (zr nilN)) tv))))) (Ak 1 (An (zr true) (zr true))))) (o1 hpre) (fun (x0:Nat) hx0 => ?_)
 refine swp_seq ?_
 refine zR [0,1,9,10,11,12] [] (Ak 1 tv) ?_
 refine swp_seq ?_
 refine zI (decide ((x0:Int) < (↑(a.length):Int))) (fun y1 => ?_) (fun y1 => ?_)
 ·refine swp_skip ?_
  refine swp_seq ?_
  refine swp_block ?_
  refine swp_seq ?_
  refine zR [0,1,9,10,11,5,6] [] (Ak 1 (An (An (o2 hpre x0 hx0 y1) (o3 hpre x0 hx0 y1)) (Ak 3 tv))) ?_
  refine swp_seq ?_
  refine swp_seq ?_
  refine zR [0,1,9,10,11,5,6,19] [] (Ak 4 tv) ?_
  refine zI (decide ((↑(b.length):Int)<=(x0:Int))) (fun y2 => ?_) (fun y2 => ?_)
  ·refine swp_seq ?_
   refine zR [4] [] (Ak 1 tv) ?_
   refine swp_ret ?_
   exact zT [] (An (Ak 1 tv) (An (An (ci (o4 hpre x0 hx0 y1 y2)) (zr nilN)) (An (zr true) (An (zr true) (zr true)))))
  ·refine swp_skip ?_
   refine swp_seq ?_
   refine zR [0,1,9,10,11,6,7] [] (Ak 2 (An (An (o5 hpre x0 hx0 y1 y2) (o6 hpre x0 hx0 y1 y2)) (Ak 2 tv))) ?_
   refine swp_seq ?_
   refine zC ([(2,CallSpec.eq (s114 (a.getD x0 0) (b.getD x0 0)) [true,true])]) [0,1,9,10,11,8] [] (Ak 2 (An (An (An (zr (iv (a.getD x0 0))) (An (zr (iv (b.getD x0 0))) tv)) (An (t114 (a.getD x0 0) (b.getD x0 0)) (Ak 2 (fun (i3:Env)=>tv)))) (Ak 1 tv))) ?_
   refine swp_seq ?_
   refine zR [0,1,9,10,11,8,28] [] (Ak 2 tv) ?_
   refine zI (!decide (cmpW (a.getD x0 0) (b.getD x0 0)=0)) (fun y4 => ?_) (fun y4 => ?_)
   ·refine swp_seq ?_
    refine zR [4] [] (Ak 2 tv) ?_
    refine swp_ret ?_
    exact zT [] (An (Ak 1 tv) (An (An (ci (o7 hpre x0 hx0 y1 y2 y4)) (zr nilN)) (An (zr true) (An (zr true) (zr true)))))
   ·refine swp_skip ?_
    refine zR [0,1,9,10,11] [] (An (o8 hpre x0 hx0 y1 y2 y4) (Ak 1 tv)) ?_
    exact zn (zE hE [] [] [0,1,9,10] [] (An (An (An (zr (aInts a)) (zr true)) (An (An (zr (aInts b)) (zr true)) (An (An (zr (aInts a)) (zr true)) (An (An (zr (iv (↑(a.length):Int))) (zr true)) (An (An (ci (o9 hpre x0 hx0 y1 y2 y4)) (zr nilN)) tv))))) (Ak 1 (An (zr true) (zr true))))) (o10 hpre x0 hx0 y1 y2 y4) (o11 hpre x0 hx0 y1 y2 y4)
 ·refine swp_exit ?_
  refine swp_seq ?_
  refine swp_seq ?_
  refine zR [35] [] (Ak 5 tv) ?_
  refine zI (decide ((↑(a.length):Int) < (↑(b.length):Int))) (fun y5 => ?_) (fun y5 => ?_)
  ·refine swp_seq ?_
   refine zR [4] [] (Ak 1 tv) ?_
   refine swp_ret ?_
   exact zT [] (An (Ak 1 tv) (An (An (ci (o12 hpre x0 hx0 y1 y5)) (zr nilN)) (An (zr true) (An (zr true) (zr true)))))
  ·refine swp_skip ?_
   refine swp_seq ?_
   refine zR [4] [] (Ak 1 tv) ?_
   refine swp_ret ?_
   exact zT [] (An (Ak 1 tv) (An (An (ci (o13 hpre x0 hx0 y1 y5)) (zr nilN)) (An (zr true) (An (zr true) (zr true)))))
theorem t82 (a b:List Int):Triple Try.prog 82 (s82 a b):=by
 apply w82
 all_goals (try delta qb qc qd qe qf)
 case o0=>intros; rfl
 case o1=>exact fun _=>⟨Nat.zero_le _,Nat.zero_le _,fun j hj=>absurd hj (Nat.not_lt_zero _)⟩
 all_goals (intro hp x hx hl; obtain ⟨h1,h2,h3⟩:=hx; simp only [decide_eq_true_eq,decide_eq_false_iff_not] at hl; have e:=cmpL_at x a b h1 h2 h3)
 case o2=>omega
 case o3=>exact hl
 case o4 =>
  intro h; simp only [decide_eq_true_eq] at h
  rw [e,dropI_cons (l:=a) (by omega),dropI_nil (l:=b) (by omega)]; rfl
 case o12 =>
  intro h; simp only [decide_eq_true_eq] at h
  rw [e,dropI_cons (l:=b) (by omega),dropI_nil (l:=a) (by omega)]; rfl
 case o13 =>
  intro h; simp only [decide_eq_false_iff_not] at h
  rw [e,dropI_nil (l:=a) (by omega),dropI_nil (l:=b) (by omega)]; rfl
 all_goals (intro h; simp only [decide_eq_false_iff_not] at h)
 case o5=>omega
 case o6=>omega
 all_goals (intro h4)
 case o7 =>
  rw [e,dropI_cons (l:=a) (by omega),dropI_cons (l:=b) (by omega),cmpL,if_neg (by simpa using h4)]
 case o8=>exact ⟨by omega,by omega⟩
 case o9=>rfl
 case o10 =>
  simp only [Bool.not_eq_false',decide_eq_true_eq] at h4
  exact ⟨by omega,by omega,lt_succ_cases h3 (cmpW_zero h4)⟩
 case o11=>omega
abbrev qg (ws:List Int) (Pq:Prop):Prop:=ws.length<=65536->Pq
abbrev qh (ws:List Int) (x0:Nat) (Pq:Prop):Prop:=(x0<=ws.length /\ ∀ (j:Nat),j < x0->ws.getD j 0=0)->Pq
abbrev qi (ws:List Int) (x0:Nat) (Pq:Prop):Prop:=qh ws x0 (decide ((x0:Int) < (↑(ws.length):Int))=true->Pq)
theorem w81 (ws:List Int)
 (o0:List.length ws<=65536->0=(↑0:Int))
 (o1:qg ws (0<=ws.length /\ ∀ (j:Nat),j < 0->ws.getD j 0=0))
 (o2:qg ws (∀ (x0:Nat),qi ws x0 (0<=(x0:Int))))
 (o3:qg ws (∀ (x0:Nat),qi ws x0 ((x0:Int) < (↑(ws.length):Int))))
 (o4:qg ws (∀ (x0:Nat),qi ws x0 ((!decide (ws.getD x0 0=0))=true->ws.getD x0 0=orI ws)))
 (o5:qg ws (∀ (x0:Nat),qi ws x0 ((!decide (ws.getD x0 0=0))=false->inI ((x0:Int) + 1))))
 (o6:qg ws (∀ (x0:Nat),qi ws x0 ((!decide (ws.getD x0 0=0))=false->(x0:Int) + 1=(↑(x0 + 1):Int))))
 (o7:qg ws (∀ (x0:Nat),qi ws x0 ((!decide (ws.getD x0 0=0))=false->x0 + 1<=ws.length /\ ∀ (j:Nat),j < x0 + 1->ws.getD j 0=0)))
 (o8:qg ws (∀ (x0:Nat),qi ws x0 ((!decide (ws.getD x0 0=0))=false->ws.length - (x0 + 1) < ws.length - x0)))
 (o9:qg ws (∀ (x0:Nat),qh ws x0 (decide ((x0:Int) < (↑(ws.length):Int))=false->0=orI ws))) :
  Triple Try.prog 81 (s81 ws):=by
 refine triple_of Try.func81 rfl Try.call81 T0_ok _ rfl rfl rfl rfl (Nat.le_of_ble_eq_true (by kernel_rfl)) (fun _ _ _ _ h=>h) ?_
 intro hpre C hC _ hE
 obtain ⟨P,w0,E0,av,hA,ro,df⟩:=C
 obtain ⟨rfl,rfl,rfl⟩:=hC
 refine swp_seq ?_
 refine zR [0] [] (Ak 1 tv) ?_
 refine swp_seq ?_
 refine zR [0,3] [] (Ak 1 tv) ?_
 refine swp_seq ?_
 refine swp_seq ?_
 refine zR [3,6,7,8] [] (Ak 3 tv) ?_
 refine swp_block ?_
 refine zL (Hint.ann (h81 ws) [(3,iv 0),(6,aInts ws),(7,iv (↑(ws.length):Int))] [] 10040) (zE hE [] [] [3,6,7] [] (An (An (An (zr (iv 0)) (zr true)) (An (An (zr (aInts ws)) (zr true)) (An (An (zr (iv (↑(ws.length):Int))) (zr true)) (An (An (ci (o0 hpre)) (zr nilN)) tv)))) (Ak 1 (An (zr true) (zr true))))) (o1 hpre) (fun (x0:Nat) hx0 => ?_)
 refine swp_seq ?_
 refine zR [3,6,7,8,9] [] (Ak 1 tv) ?_
 refine swp_seq ?_
 refine zI (decide ((x0:Int) < (↑(ws.length):Int))) (fun y1 => ?_) (fun y1 => ?_)
 ·refine swp_skip ?_
  refine swp_seq ?_
  refine swp_block ?_
  refine swp_seq ?_
  refine zR [3,6,7,8,5] [] (An (An (o2 hpre x0 hx0 y1) (o3 hpre x0 hx0 y1)) (Ak 2 tv)) ?_
  refine swp_seq ?_
  refine zR [3,6,7,8,5,14] [] (Ak 3 tv) ?_
  refine zI (!decide (ws.getD x0 0=0)) (fun y2 => ?_) (fun y2 => ?_)
  ·refine swp_seq ?_
   refine zR [2] [] (Ak 2 tv) ?_
   refine swp_ret ?_
   exact zT [] (An (Ak 1 tv) (An (An (ci (o4 hpre x0 hx0 y1 y2)) (zr nilN)) (An (zr true) (An (zr true) (zr true)))))
  ·refine swp_skip ?_
   refine zR [3,6,7,8] [] (An (o5 hpre x0 hx0 y1 y2) (Ak 1 tv)) ?_
   exact zn (zE hE [] [] [3,6,7] [] (An (An (An (zr (iv 0)) (zr true)) (An (An (zr (aInts ws)) (zr true)) (An (An (zr (iv (↑(ws.length):Int))) (zr true)) (An (An (ci (o6 hpre x0 hx0 y1 y2)) (zr nilN)) tv)))) (Ak 1 (An (zr true) (zr true))))) (o7 hpre x0 hx0 y1 y2) (o8 hpre x0 hx0 y1 y2)
 ·refine swp_exit ?_
  refine swp_seq ?_
  refine zR [2] [] (Ak 2 tv) ?_
  refine swp_ret ?_
  exact zT [] (An (Ak 1 tv) (An (An (ci (o9 hpre x0 hx0 y1)) (zr nilN)) (An (zr true) (An (zr true) (zr true)))))
theorem t81 (ws:List Int):Triple Try.prog 81 (s81 ws):=by
 apply w81
 all_goals (try delta qg qh qi)
 case o0=>intros; rfl
 case o1=>exact fun _=>⟨Nat.zero_le _,fun j hj=>absurd hj (Nat.not_lt_zero _)⟩
 all_goals (intro hp x hx hl; obtain ⟨h1,h3⟩:=hx; simp only [decide_eq_true_eq,decide_eq_false_iff_not] at hl)
 case o2=>omega
 case o3=>exact hl
 case o9=>exact (orI_zero (fun j hj=>h3 j (by omega))).symm
 all_goals (intro h4)
 case o4=>exact (orI_hit (by omega) h3 (by simpa using h4)).symm
 case o5=>exact ⟨by omega,by omega⟩
 case o6=>rfl
 case o7=>exact ⟨by omega,lt_succ_cases h3 (by simpa using h4)⟩
 case o8=>omega
end Go.Ab
namespace Go.Sh
structure Thg where
 off:Int
 at_:Int
 cost:Int
 prints:Int
 deriving DecidableEq,Inhabited
structure Mrk where
 ch:Int
 th:Int
 at_:Int
 deriving DecidableEq,Inhabited
structure Hs where
 things:List Thg
 marks:List Mrk
 deriving DecidableEq,Inhabited
def thg (h:Hs) (i:Nat):Thg:=h.things.getD i default
def isThing (h:Hs) (n:Int):Bool:=within n 0 ((h.things.length:Int) - 1)
def okT (h:Hs) (i:Nat):Bool:=within (thg h i).off (-1) ((i:Int) - 1) && within (thg h i).at_ 0 99 && (decide ((thg h i).off = -1) || !decide ((thg h i).at_ < (thg h (thg h i).off.toNat).at_)) && within (thg h i).cost 0 99 && within (thg h i).prints 0 1
def okM (h:Hs) (m:Mrk):Bool:=within m.ch 0 2 && isThing h m.th && within m.at_ (thg h m.th.toNat).at_ 99
def okH (h:Hs):Bool:=decide (h.things.length<=8) && decide (h.marks.length<=6) && (List.range h.things.length).all (okT h) && h.marks.all (okM h)
def check7 (h:Hs):Int:=if okH h then 0 else 70
def far7 (h:Hs):Bool:=decide ((h.things.length:Int) > 40) || decide ((h.marks.length:Int) > 40)
def fitsH (h:Hs):Prop:=h.things.length<=1125899906842624/\h.marks.length<=1125899906842624
def idxG {α:Type} (l:List α) (p:α->Bool):Int:=match l.findIdx? p with | some i=>i | none => -1
theorem idxG_found {α:Type} [Inhabited α] {l:List α} {p:α->Bool} {x:Nat} (hx:x < l.length) (h:∀ j,j < x->p (l.getD j default)=false) (hp:p (l.getD x default)=true):idxG l p=x:=by
 have:l.findIdx? p=some x:=by
  rw [List.findIdx?_eq_some_iff_getElem]
  refine ⟨hx,by rw [← Go.Ab.getD_lt l default hx]; exact hp,fun j hj => ?_⟩
  rw [← Go.Ab.getD_lt l default (by omega),h j hj]; simp
 simp [idxG,this]
theorem idxG_none {α:Type} [Inhabited α] {l:List α} {p:α->Bool} (h:∀ j,j < l.length->p (l.getD j default)=false):idxG l p = -1:=by
 have:l.findIdx? p=none:=by
  rw [List.findIdx?_eq_none_iff]
  intro x hx
  have h1:=Go.Ab.any_idx l default p h
  rw [List.any_eq_false] at h1
  simpa using h1 x hx
 simp [idxG,this]
theorem idxG_any {α:Type} (l:List α) (p:α->Bool):decide (0<=idxG l p)=l.any p:=by
 unfold idxG
 cases e:l.findIdx? p with
 | none =>
  rw [List.findIdx?_eq_none_iff] at e
  have:l.any p=false:=by rw [List.any_eq_false]; intro x hx; simp [e x hx]
  rw [this]; rfl
 | some i =>
  rw [List.findIdx?_eq_some_iff_getElem] at e
  obtain ⟨h,h1,_⟩:=e
  have:l.any p=true:=by rw [List.any_eq_true]; exact ⟨_,List.getElem_mem h,h1⟩
  rw [this]; simp
theorem okH_iff {h:Hs}:okH h=true ↔ h.things.length<=8/\h.marks.length<=6/\(∀ i,i < h.things.length->okT h i=true) /\ ∀ m,m ∈ h.marks->okM h m=true:=by
 simp only [okH,Bool.and_eq_true,decide_eq_true_eq,List.all_eq_true,List.mem_range]
 constructor
 ·rintro ⟨⟨⟨a,b⟩,c⟩,d⟩; exact ⟨a,b,c,d⟩
 ·rintro ⟨a,b,c,d⟩; exact ⟨⟨⟨a,b⟩,c⟩,d⟩
def okW (h:Hs):Bool:=decide (h.things.length<=8) && decide (h.marks.length<=100) && (List.range h.things.length).all (okT h) && h.marks.all (okM h)
theorem okW_iff {h:Hs}:okW h=true ↔ h.things.length<=8/\h.marks.length<=100/\(∀ i,i < h.things.length->okT h i=true) /\ ∀ m,m ∈ h.marks->okM h m=true:=by
 simp only [okW,Bool.and_eq_true,decide_eq_true_eq,List.all_eq_true,List.mem_range]
 constructor
 ·rintro ⟨⟨⟨a,b⟩,c⟩,d⟩; exact ⟨a,b,c,d⟩
 ·rintro ⟨a,b,c,d⟩; exact ⟨⟨⟨a,b⟩,c⟩,d⟩
theorem okH_W {h:Hs} (hh:okH h=true):okW h=true:=by
 obtain ⟨a,b,c,d⟩:=okH_iff.1 hh
 exact okW_iff.2 ⟨a,by omega,c,d⟩
structure Twn where
 house:Hs
 places:List Int
 carry:List Int
 rooms:List Int
 minute:Int
 deriving DecidableEq,Inhabited
def thereT (t:Twn) (i:Nat):Bool:=decide ((thg t.house i).at_<=t.minute)
def isBld (t:Twn) (n:Int):Bool:=within n 0 ((t.rooms.length:Int) - 1)
def inB (t:Twn) (l:List Int) (b:Int) (i:Nat):Bool:=decide (l.getD i 0=b) && thereT t i
def cntB (t:Twn) (l:List Int) (b:Int):Nat->Nat
 | 0=>0
 | n + 1=>if inB t l b n then cntB t l b n + 1 else cntB t l b n
def rmB (t:Twn) (l:List Int) (b:Nat):Bool := !decide ((cntB t l b l.length:Int) > t.rooms.getD b 0)
def roomyT (t:Twn) (l:List Int):Bool:=(List.range t.rooms.length).all (rmB t l)
def okHead10 (t:Twn):Bool:=decide (check7 t.house=0) && within (t.rooms.length:Int) 1 3 && decide ((t.places.length:Int)=t.house.things.length) && decide ((t.carry.length:Int)=t.house.things.length) && within t.minute 0 99
def okPl (t:Twn) (i:Nat):Bool:=isBld t (t.places.getD i 0) && within (t.carry.getD i 0) 0 99
def okRm (t:Twn) (i:Nat):Bool:=within (t.rooms.getD i 0) 0 9
def okTwn (t:Twn):Bool:=okHead10 t && (List.range t.places.length).all (okPl t) && (List.range t.rooms.length).all (okRm t) && roomyT t t.places
def check10 (t:Twn):Int:=if okTwn t then 0 else 100
def fitsT (t:Twn):Prop:=fitsH t.house/\t.places.length<=1125899906842624/\t.carry.length<=1125899906842624/\t.rooms.length<=1125899906842624
def huge10 (t:Twn):Bool:=far7 t.house || decide ((t.places.length:Int) > 40) || decide ((t.carry.length:Int) > 40) || decide ((t.rooms.length:Int) > 40)
def far10 (t:Twn):Bool:=huge10 t || (decide ((t.places.length:Int) > 6) && decide (check10 t=0))
def pgT (h:Hs):Nat->List Nat
 | 0=>[]
 | n + 1=>pgT h n ++ [if (thg h n).off = -1 then n else (pgT h n).getD (thg h n).off.toNat 0]
def pgN (h:Hs) (i:Nat):Nat:=(pgT h (i + 1)).getD i 0
theorem pgT_len (h:Hs):∀ n,(pgT h n).length=n:=by
 intro n
 induction n with
 | zero=>rfl
 | succ n ih=>rw [pgT,List.length_append,ih]; rfl
theorem pgT_at (h:Hs):∀ n i,i < n->(pgT h n).getD i 0=pgN h i:=by
 intro n
 induction n with
 | zero=>intro i hi; omega
 | succ n ih =>
  intro i hi
  by_cases e:i=n
  ·subst e; rfl
  ·rw [pgT,Go.Ab.getD_append,pgT_len,if_pos (by omega)]; exact ih i (by omega)
theorem pgN_eq (h:Hs) (i:Nat) (hi:(thg h i).off = -1 ∨ (thg h i).off.toNat < i):pgN h i=if (thg h i).off = -1 then i else pgN h (thg h i).off.toNat:=by
 show (pgT h (i + 1)).getD i 0=_
 rw [pgT,Go.Ab.getD_append,pgT_len,if_neg (by omega),Nat.sub_self]
 show (if _ then _ else _)=_
 by_cases e:(thg h i).off = -1
 ·rw [if_pos e,if_pos e]
 ·rw [if_neg e,if_neg e]; exact pgT_at h i _ (by omega)
theorem pgN_lt {h:Hs} {n:Nat} (hok:∀ i,i < n->(thg h i).off = -1 ∨ (thg h i).off.toNat < i):∀ i,i < n->pgN h i<=i:=by
 intro i
 induction i using Nat.strongRecOn with
 | ind i ih =>
  intro hi
  rw [pgN_eq h i (hok i hi)]
  split
  ·exact Nat.le_refl _
  ·rename_i e
   have h1:(thg h i).off.toNat < i:=(hok i hi).resolve_left e
   have:=ih _ h1 (by omega)
   omega
end Go.Sh
namespace Go.En
open Go Go.Ab Go.Sh
def cThg (t:Thg):List AV:=[iv t.off,iv t.at_,iv t.cost,iv t.prints]
def cMrk (m:Mrk):List AV:=[iv m.ch,iv m.th,iv m.at_]
def aMrks (l:List Mrk):AV := .sl 3 l.length (fun i=>cMrk (l.getD i default))
def cHs (h:Hs):List AV:=[.sl 4 h.things.length (fun i=>cThg (thg h i)),aMrks h.marks]
abbrev vThg (t:Thg):AV := .agg (cThg t)
abbrev vMrk (m:Mrk):AV := .agg (cMrk m)
abbrev vHs (h:Hs):AV := .agg (cHs h)
def cTwn (t:Twn):List AV:=[.sl 4 t.house.things.length (fun i=>cThg (thg t.house i)),aMrks t.house.marks,aInts t.places,aInts t.carry,aInts t.rooms,iv t.minute]
abbrev vTwn (t:Twn):AV := .agg (cTwn t)
end Go.En
namespace Go.Ab
open Go Go.RowKit Go.Proofs Go.Sh Go.En
def s37 (n lo hi:Int):CallSpec:={ args:=[iv n,iv lo,iv hi],res:=bv (within n lo hi) }
def s79 (n lo hi:Int):CallSpec:=s37 n lo hi
def s75 (n:Int):CallSpec:={ args:=[iv n],res:=bv (within n 0 99) }
def s44 (n:Int):CallSpec:=s75 n
def s7 (n:Int):CallSpec:={ args:=[iv n],res:=bv (within n 0 2) }
def s43 (n:Int):CallSpec:=s7 n
def s110 (h:Hs) (n:Int):CallSpec:={ args:=[vHs h,iv n],res:=bv (isThing h n),pre:=fitsH h }
def s107 (h:Hs) (n:Int):CallSpec:=s110 h n
def s74 (h:Hs):CallSpec:={ args:=[vHs h],res:=bv (far7 h),pre:=fitsH h }
def s76 (h:Hs) (m:Mrk):CallSpec:={ args:=[vHs h,vMrk m],res:=bv (okM h m),pre:=fitsH h }
def s33 (h:Hs):CallSpec:={ args:=[vHs h],res:=iv (check7 h),pre:=fitsH h }
def h33a (h:Hs):Hint:={ X:=Nat,M:=fun i=>[(3,iv i)],I:=fun i=>i<=h.things.length /\ ∀ j,j < i->okT h j=true,mu:=fun i=>h.things.length - i,x0:=(0:Nat),nx:=fun i=>i + 1 }
def h33b (h:Hs):Hint:={ X:=Nat,M:=fun i=>[(5,iv i)],I:=fun i=>i<=h.marks.length /\ ∀ j,j < i->okM h (h.marks.getD j default)=true,mu:=fun i=>h.marks.length - i,x0:=(0:Nat),nx:=fun i=>i + 1 }
def s109 (m:Mrk) (h:Hs):CallSpec:={ args:=[vMrk m,.rp (cHs h)],res:=bv (!okM h m),pre:=fitsH h }
def s132 (l:List Mrk) (p:Mrk->Bool):CallSpec:={ args:=[aMrks l,.fn 0],res:=iv (idxG l p),pre:=l.length<=1125899906842624,fnok:=fnokOf Try.prog 0 (fun m:Mrk=>[vMrk m]) (fun m=>bv (p m)) }
def h132 (l:List Mrk) (p:Mrk->Bool):Hint:={ X:=Nat,M:=fun i=>[(8,iv i)],I:=fun i=>i<=l.length /\ ∀ j,j < i->p (l.getD j default)=false,mu:=fun i=>l.length - i,x0:=(0:Nat),nx:=fun i=>i + 1 }
def c132 (l:List Mrk) (p:Mrk->Bool) (x:Nat):CallSpec:={ args:=[vMrk (l.getD x default)],res:=bv (p (l.getD x default)) }
def s108 (l:List Mrk) (p:Mrk->Bool):CallSpec:={ args:=[aMrks l,.fn 0],res:=bv (l.any p),pre:=l.length<=1125899906842624,fnok:=fnokOf Try.prog 0 (fun m:Mrk=>[vMrk m]) (fun m=>bv (p m)) }
def c108 (l:List Mrk) (p:Mrk->Bool):CallSpec:=s132 l p
def s78 (h:Hs):CallSpec:={ args:=[vHs h],res:=iv 0,pre:=okH h=true }
def h78 (h:Hs):Hint:={ X:=Nat,M:=fun i=>[(19,iv i)],I:=fun i=>i<=h.things.length,mu:=fun i=>h.things.length - i,x0:=(0:Nat),nx:=fun i=>i + 1 }
def c78 (h:Hs):CallSpec:=s108 h.marks (fun m => !okM h m)
def s42 (h:Hs) (is:Bool):CallSpec:={ args:=[vHs h,bv is],res:=iv 0,pre:=okH h=true/\is=true }
def s34 (n lo hi:Int):CallSpec:={ args:=[iv n,iv lo,iv hi],res:=bv (within n lo hi) }
def s85 (n lo hi:Int):CallSpec:={ args:=[iv n,iv lo,iv hi],res:=bv (within n lo hi) }
def s35 (t:Twn) (n:Int):CallSpec:={ args:=[vTwn t,iv n],res:=bv (isBld t n),pre:=fitsT t }
def s50 (t:Twn) (n:Int):CallSpec:={ args:=[vTwn t,iv n],res:=bv (isBld t n),pre:=fitsT t }
def s48 (t:Twn) (n:Int):CallSpec:={ args:=[vTwn t,iv n],res:=bv (isThing t.house n),pre:=fitsT t }
def s14 (t:Twn) (n:Int):CallSpec:={ args:=[vTwn t,iv n],res:=bv (thereT t n.toNat),pre:=0<=n/\n < t.house.things.length }
def s36 (t:Twn) (l:List Int):CallSpec:={ args:=[vTwn t,aInts l],res:=bv (roomyT t l),pre:=fitsT t/\l.length=t.house.things.length }
def h36a (t:Twn) (l:List Int):Hint:={ X:=Nat,M:=fun i=>[(5,iv i)],I:=fun i=>i<=t.rooms.length /\ ∀ j,j < i->rmB t l j=true,mu:=fun i=>t.rooms.length - i,x0:=(0:Nat),nx:=fun i=>i + 1 }
def h36b (t:Twn) (l:List Int) (b:Nat):Hint:={ X:=Nat,M:=fun i=>[(6,iv (cntB t l b i)),(7,iv i)],I:=fun i=>i<=l.length,mu:=fun i=>l.length - i,x0:=(0:Nat),nx:=fun i=>i + 1 }
def s6 (t:Twn):CallSpec:={ args:=[vTwn t],res:=iv (check10 t),pre:=fitsT t }
def h6a (t:Twn):Hint:={ X:=Nat,M:=fun i=>[(3,iv i)],I:=fun i=>i<=t.places.length /\ ∀ j,j < i->okPl t j=true,mu:=fun i=>t.places.length - i,x0:=(0:Nat),nx:=fun i=>i + 1 }
def h6b (t:Twn):Hint:={ X:=Nat,M:=fun i=>[(4,iv i)],I:=fun i=>i<=t.rooms.length /\ ∀ j,j < i->okRm t j=true,mu:=fun i=>t.rooms.length - i,x0:=(0:Nat),nx:=fun i=>i + 1 }
def s32 (t:Twn):CallSpec:={ args:=[vTwn t],res:=bv (huge10 t),pre:=fitsT t }
def s5 (t:Twn):CallSpec:={ args:=[vTwn t],res:=bv (far10 t),pre:=fitsT t }
def s16 (t:Twn) (n:Nat):CallSpec:={ args:=[vTwn t,iv (n:Int)],res:=iv (pgN t.house n:Nat),pre:=okH t.house=true/\n < t.house.things.length }
def h16 (t:Twn) (n:Nat):Hint:={ X:=Nat,M:=fun x=>[(1,iv x)],I:=fun x=>x < t.house.things.length/\pgN t.house x=pgN t.house n,mu:=fun x=>x,x0:=n,nx:=fun x=>(thg t.house x).off.toNat }
end Go.Ab
namespace Go.Ab
open Go Go.RowKit Go.Proofs Go.Sh Go.En
theorem w37 (n:Int) (lo:Int) (hi:Int) :
  Triple Try.prog 37 (s37 n lo hi):=by
 refine triple_of Try.func37 rfl Try.call37 T0_ok _ rfl rfl rfl rfl (Nat.le_of_ble_eq_true (by kernel_rfl)) (fun _ _ _ _ h=>h) ?_
 intro _ C hC _ hE
 obtain ⟨P,w0,E0,av,hA,ro,df⟩:=C
 obtain ⟨rfl,rfl,rfl⟩:=hC
 refine swp_seq ?_
 refine zR [0,1,2] [] (Ak 1 tv) ?_
 refine swp_seq ?_
 refine zC ([(3,CallSpec.eq (s46 n lo hi) [true,true,true])]) [6] [] (Ak 3 (An (An (An (zr (iv n)) (An (zr (iv lo)) (An (zr (iv hi)) tv))) (An (t46 (n) (lo) (hi)) (Ak 2 (fun (i0:Env)=>tv)))) (Ak 1 tv))) ?_
 refine swp_ret ?_
 exact zT [] (An (Ak 1 tv) (An (An (zr (bv (within n lo hi))) (zr nilN)) (An (zr true) (An (zr true) (zr true)))))
theorem t37 (n lo hi:Int):Triple Try.prog 37 (s37 n lo hi):=by
 apply w37
 all_goals (first | ((repeat intro _) <;> (try simp only [Bool.cond_true_left,Bool.cond_false_right,Bool.not_not,Bool.not_eq_true',Bool.not_eq_false',Bool.or_eq_true,Bool.or_eq_false_iff,Bool.and_eq_true,decide_eq_true_eq,decide_eq_false_iff_not,inI,big] at *) <;> first | (exact rfl) | omega | (exact ⟨Nat.zero_le _,fun j hj=>absurd hj (Nat.not_lt_zero j)⟩) | (simp_all; done) | (simp_all; omega)) | skip)
theorem w79 (n:Int) (lo:Int) (hi:Int)
  (o0:(bif decide (lo<=n) then decide (n<=hi) else false)=within n lo hi) :
  Triple Try.prog 79 (s79 n lo hi):=by
 refine triple_of Try.func79 rfl Try.call79 T0_ok _ rfl rfl rfl rfl (Nat.le_of_ble_eq_true (by kernel_rfl)) (fun _ _ _ _ h=>h) ?_
 intro _ C hC _ hE
 obtain ⟨P,w0,E0,av,hA,ro,df⟩:=C
 obtain ⟨rfl,rfl,rfl⟩:=hC
 refine swp_seq ?_
 refine zR [0,1,2] [] (Ak 1 tv) ?_
 refine swp_seq ?_
 refine zR [6] [] (Ak 4 (An (fun (y0:decide (lo<=n)=true)=>(An (Ak 1 tv) tv)) (An (fun (y1:decide (lo<=n)=true)=>(An (Ak 1 tv) tv)) (An (fun (y2:decide (lo<=n)=true)=>(An (An (fun (y3:decide (lo<=n)=true)=>y2) (An (fun (y4:decide (lo<=n)=true)=>y2) tv)) tv)) (An (An (fun (y5:decide (lo<=n)=true)=>y5) (fun (y6:decide (lo<=n)=false)=>tv)) (Ak 1 tv)))))) ?_
 refine swp_ret ?_
 exact zT [] (An (Ak 1 tv) (An (An (cb (o0)) (zr nilN)) (An (zr true) (An (zr true) (zr true)))))
theorem t79 (n lo hi:Int):Triple Try.prog 79 (s79 n lo hi):=by
 apply w79
 all_goals (first | ((repeat intro _) <;> (try simp only [Bool.cond_true_left,Bool.cond_false_right,Bool.not_not,Bool.not_eq_true',Bool.not_eq_false',Bool.or_eq_true,Bool.or_eq_false_iff,Bool.and_eq_true,decide_eq_true_eq,decide_eq_false_iff_not,inI,big] at *) <;> first | (exact rfl) | omega | (exact ⟨Nat.zero_le _,fun j hj=>absurd hj (Nat.not_lt_zero j)⟩) | (simp_all; done) | (simp_all; omega)) | skip)
theorem w75 (n:Int) :
  Triple Try.prog 75 (s75 n):=by
 refine triple_of Try.func75 rfl Try.call75 T0_ok _ rfl rfl rfl rfl (Nat.le_of_ble_eq_true (by kernel_rfl)) (fun _ _ _ _ h=>h) ?_
 intro _ C hC _ hE
 obtain ⟨P,w0,E0,av,hA,ro,df⟩:=C
 obtain ⟨rfl,rfl,rfl⟩:=hC
 refine swp_seq ?_
 refine zR [0] [] (Ak 1 tv) ?_
 refine swp_seq ?_
 refine zC ([(1,CallSpec.eq (s37 n 0 99) [true,true,true])]) [2] [] (Ak 1 (An (An (An (zr (iv n)) (An (zr (iv 0)) (An (zr (iv 99)) tv))) (An (t37 (n) (0) (99)) (Ak 2 (fun (i0:Env)=>tv)))) (Ak 1 tv))) ?_
 refine swp_ret ?_
 exact zT [] (An (Ak 1 tv) (An (An (zr (bv (within n 0 99))) (zr nilN)) (An (zr true) (An (zr true) (zr true)))))
theorem t75 (n:Int):Triple Try.prog 75 (s75 n):=by
 apply w75
 all_goals (first | ((repeat intro _) <;> (try simp only [Bool.cond_true_left,Bool.cond_false_right,Bool.not_not,Bool.not_eq_true',Bool.not_eq_false',Bool.or_eq_true,Bool.or_eq_false_iff,Bool.and_eq_true,decide_eq_true_eq,decide_eq_false_iff_not,inI,big] at *) <;> first | (exact rfl) | omega | (exact ⟨Nat.zero_le _,fun j hj=>absurd hj (Nat.not_lt_zero j)⟩) | (simp_all; done) | (simp_all; omega)) | skip)
theorem w44 (n:Int) :
  Triple Try.prog 44 (s44 n):=by
 refine triple_of Try.func44 rfl Try.call44 T0_ok _ rfl rfl rfl rfl (Nat.le_of_ble_eq_true (by kernel_rfl)) (fun _ _ _ _ h=>h) ?_
 intro _ C hC _ hE
 obtain ⟨P,w0,E0,av,hA,ro,df⟩:=C
 obtain ⟨rfl,rfl,rfl⟩:=hC
 refine swp_seq ?_
 refine zR [0] [] (Ak 1 tv) ?_
 refine swp_seq ?_
 refine zC ([(1,CallSpec.eq (s79 n 0 99) [true,true,true])]) [2] [] (Ak 1 (An (An (An (zr (iv n)) (An (zr (iv 0)) (An (zr (iv 99)) tv))) (An (t79 (n) (0) (99)) (Ak 2 (fun (i0:Env)=>tv)))) (Ak 1 tv))) ?_
 refine swp_ret ?_
 exact zT [] (An (Ak 1 tv) (An (An (zr (bv (within n 0 99))) (zr nilN)) (An (zr true) (An (zr true) (zr true)))))
theorem t44 (n:Int):Triple Try.prog 44 (s44 n):=by
 apply w44
 all_goals (first | ((repeat intro _) <;> (try simp only [Bool.cond_true_left,Bool.cond_false_right,Bool.not_not,Bool.not_eq_true',Bool.not_eq_false',Bool.or_eq_true,Bool.or_eq_false_iff,Bool.and_eq_true,decide_eq_true_eq,decide_eq_false_iff_not,inI,big] at *) <;> first | (exact rfl) | omega | (exact ⟨Nat.zero_le _,fun j hj=>absurd hj (Nat.not_lt_zero j)⟩) | (simp_all; done) | (simp_all; omega)) | skip)
theorem w7 (n:Int) :
  Triple Try.prog 7 (s7 n):=by
 refine triple_of Try.func7 rfl Try.call7 T0_ok _ rfl rfl rfl rfl (Nat.le_of_ble_eq_true (by kernel_rfl)) (fun _ _ _ _ h=>h) ?_
 intro _ C hC _ hE
 obtain ⟨P,w0,E0,av,hA,ro,df⟩:=C
 obtain ⟨rfl,rfl,rfl⟩:=hC
 refine swp_seq ?_
 refine zR [0] [] (Ak 1 tv) ?_
 refine swp_seq ?_
 refine zC ([(1,CallSpec.eq (s37 n 0 2) [true,true,true])]) [2] [] (Ak 1 (An (An (An (zr (iv n)) (An (zr (iv 0)) (An (zr (iv 2)) tv))) (An (t37 (n) (0) (2)) (Ak 2 (fun (i0:Env)=>tv)))) (Ak 1 tv))) ?_
 refine swp_ret ?_
 exact zT [] (An (Ak 1 tv) (An (An (zr (bv (within n 0 2))) (zr nilN)) (An (zr true) (An (zr true) (zr true)))))
theorem t7 (n:Int):Triple Try.prog 7 (s7 n):=by
 apply w7
 all_goals (first | ((repeat intro _) <;> (try simp only [Bool.cond_true_left,Bool.cond_false_right,Bool.not_not,Bool.not_eq_true',Bool.not_eq_false',Bool.or_eq_true,Bool.or_eq_false_iff,Bool.and_eq_true,decide_eq_true_eq,decide_eq_false_iff_not,inI,big] at *) <;> first | (exact rfl) | omega | (exact ⟨Nat.zero_le _,fun j hj=>absurd hj (Nat.not_lt_zero j)⟩) | (simp_all; done) | (simp_all; omega)) | skip)
theorem w43 (n:Int) :
  Triple Try.prog 43 (s43 n):=by
 refine triple_of Try.func43 rfl Try.call43 T0_ok _ rfl rfl rfl rfl (Nat.le_of_ble_eq_true (by kernel_rfl)) (fun _ _ _ _ h=>h) ?_
 intro _ C hC _ hE
 obtain ⟨P,w0,E0,av,hA,ro,df⟩:=C
 obtain ⟨rfl,rfl,rfl⟩:=hC
 refine swp_seq ?_
 refine zR [0] [] (Ak 1 tv) ?_
 refine swp_seq ?_
 refine zC ([(1,CallSpec.eq (s79 n 0 2) [true,true,true])]) [2] [] (Ak 1 (An (An (An (zr (iv n)) (An (zr (iv 0)) (An (zr (iv 2)) tv))) (An (t79 (n) (0) (2)) (Ak 2 (fun (i0:Env)=>tv)))) (Ak 1 tv))) ?_
 refine swp_ret ?_
 exact zT [] (An (Ak 1 tv) (An (An (zr (bv (within n 0 2))) (zr nilN)) (An (zr true) (An (zr true) (zr true)))))
theorem t43 (n:Int):Triple Try.prog 43 (s43 n):=by
 apply w43
 all_goals (first | ((repeat intro _) <;> (try simp only [Bool.cond_true_left,Bool.cond_false_right,Bool.not_not,Bool.not_eq_true',Bool.not_eq_false',Bool.or_eq_true,Bool.or_eq_false_iff,Bool.and_eq_true,decide_eq_true_eq,decide_eq_false_iff_not,inI,big] at *) <;> first | (exact rfl) | omega | (exact ⟨Nat.zero_le _,fun j hj=>absurd hj (Nat.not_lt_zero j)⟩) | (simp_all; done) | (simp_all; omega)) | skip)
theorem w110 (h:Hs) (n:Int)
  (o0:fitsH h->inI ((↑((Hs.things h).length):Int) - 1))
  (o1:fitsH h->within n 0 ((↑((Hs.things h).length):Int) - 1)=isThing h n) :
  Triple Try.prog 110 (s110 h n):=by
 refine triple_of Try.func110 rfl Try.call110 T0_ok _ rfl rfl rfl rfl (Nat.le_of_ble_eq_true (by kernel_rfl)) (fun _ _ _ _ h=>h) ?_
 intro hpre C hC _ hE
 obtain ⟨P,w0,E0,av,hA,ro,df⟩:=C
 obtain ⟨rfl,rfl,rfl⟩:=hC
 refine swp_seq ?_
 refine zR [1,2] [0] (Ak 2 tv) ?_
 refine swp_seq ?_
 refine zC ([(5,CallSpec.eq (s79 n 0 ((↑((Hs.things h).length):Int) - 1)) [true,true,true])]) [4] [] (Ak 4 (An (o0 hpre) (An (An (An (zr (iv n)) (An (zr (iv 0)) (An (zr (iv ((↑((Hs.things h).length):Int) - 1))) tv))) (An (t79 (n) (0) ((↑((Hs.things h).length):Int) - 1)) (Ak 2 (fun (i0:Env)=>tv)))) (Ak 1 tv)))) ?_
 refine swp_ret ?_
 exact zT [] (An (Ak 1 tv) (An (An (cb (o1 hpre)) (zr nilN)) (An (zr true) (An (zr true) (zr true)))))
theorem isThing_iff {h:Hs} {n:Int}:isThing h n=true ↔ 0<=n/\n < h.things.length:=by
 simp only [isThing,Go.Sh.within_iff]; omega
theorem t110 (h:Hs) (n:Int):Triple Try.prog 110 (s110 h n):=by
 apply w110
 case o0=>intro h; have:=h.1; exact ⟨by omega,by omega⟩
 all_goals (first | ((repeat intro _) <;> (try simp only [Bool.cond_true_left,Bool.cond_false_right,Bool.not_not,Bool.not_eq_true',Bool.not_eq_false',Bool.or_eq_true,Bool.or_eq_false_iff,Bool.and_eq_true,decide_eq_true_eq,decide_eq_false_iff_not,inI,big] at *) <;> first | (exact rfl) | omega | (exact ⟨Nat.zero_le _,fun j hj=>absurd hj (Nat.not_lt_zero j)⟩) | (simp_all; done) | (simp_all; omega)) | skip)
theorem w107 (h:Hs) (n:Int)
  (o0:fitsH h->inI ((↑((Hs.things h).length):Int) - 1))
  (o1:fitsH h->within n 0 ((↑((Hs.things h).length):Int) - 1)=isThing h n) :
  Triple Try.prog 107 (s107 h n):=by
 refine triple_of Try.func107 rfl Try.call107 T0_ok _ rfl rfl rfl rfl (Nat.le_of_ble_eq_true (by kernel_rfl)) (fun _ _ _ _ h=>h) ?_
 intro hpre C hC _ hE
 obtain ⟨P,w0,E0,av,hA,ro,df⟩:=C
 obtain ⟨rfl,rfl,rfl⟩:=hC
 refine swp_seq ?_
 refine zR [1,2] [0] (Ak 2 tv) ?_
 refine swp_seq ?_
 refine zC ([(5,CallSpec.eq (s37 n 0 ((↑((Hs.things h).length):Int) - 1)) [true,true,true])]) [4] [] (Ak 4 (An (o0 hpre) (An (An (An (zr (iv n)) (An (zr (iv 0)) (An (zr (iv ((↑((Hs.things h).length):Int) - 1))) tv))) (An (t37 (n) (0) ((↑((Hs.things h).length):Int) - 1)) (Ak 2 (fun (i0:Env)=>tv)))) (Ak 1 tv)))) ?_
 refine swp_ret ?_
 exact zT [] (An (Ak 1 tv) (An (An (cb (o1 hpre)) (zr nilN)) (An (zr true) (An (zr true) (zr true)))))
theorem t107 (h:Hs) (n:Int):Triple Try.prog 107 (s107 h n):=by
 apply w107
 case o0=>intro h; have:=h.1; exact ⟨by omega,by omega⟩
 all_goals (first | ((repeat intro _) <;> (try simp only [Bool.cond_true_left,Bool.cond_false_right,Bool.not_not,Bool.not_eq_true',Bool.not_eq_false',Bool.or_eq_true,Bool.or_eq_false_iff,Bool.and_eq_true,decide_eq_true_eq,decide_eq_false_iff_not,inI,big] at *) <;> first | (exact rfl) | omega | (exact ⟨Nat.zero_le _,fun j hj=>absurd hj (Nat.not_lt_zero j)⟩) | (simp_all; done) | (simp_all; omega)) | skip)
theorem w74 (h:Hs)
  (o0:fitsH h->decide (40 < (↑((Hs.things h).length):Int))=false->(!decide (40 < (↑((Hs.things h).length):Int)))=true)
  (o1:fitsH h->(bif decide (40 < (↑((Hs.things h).length):Int)) then true else decide (40 < (↑((Hs.marks h).length):Int)))=far7 h) :
  Triple Try.prog 74 (s74 h):=by
 refine triple_of Try.func74 rfl Try.call74 T0_ok _ rfl rfl rfl rfl (Nat.le_of_ble_eq_true (by kernel_rfl)) (fun _ _ _ _ h=>h) ?_
 intro hpre C hC _ hE
 obtain ⟨P,w0,E0,av,hA,ro,df⟩:=C
 obtain ⟨rfl,rfl,rfl⟩:=hC
 refine swp_seq ?_
 refine zR [1] [0] (Ak 2 tv) ?_
 refine swp_seq ?_
 refine zR [2] [] (Ak 5 (An (fun (y0:(!decide (40 < (↑((Hs.things h).length):Int)))=true)=>(An (Ak 1 tv) tv)) (An (fun (y1:(!decide (40 < (↑((Hs.things h).length):Int)))=true)=>(An (An (fun (y2:(!decide (40 < (↑((Hs.things h).length):Int)))=true)=>y1) tv) tv)) (An (fun (y3:(!decide (40 < (↑((Hs.things h).length):Int)))=true)=>(An (An (fun (y4:(!decide (40 < (↑((Hs.things h).length):Int)))=true)=>y3) tv) tv)) (An (fun (y5:(!decide (40 < (↑((Hs.things h).length):Int)))=true)=>(An (An (fun (y6:(!decide (40 < (↑((Hs.things h).length):Int)))=true)=>y5) (Ak 1 tv)) tv)) (An (An (fun (y7:decide (40 < (↑((Hs.things h).length):Int))=true)=>tv) (fun (y8:decide (40 < (↑((Hs.things h).length):Int))=false)=>(o0 hpre y8))) (Ak 1 tv))))))) ?_
 refine swp_ret ?_
 exact zT [] (An (Ak 1 tv) (An (An (cb (o1 hpre)) (zr nilN)) (An (zr true) (An (zr true) (zr true)))))
theorem t74 (h:Hs):Triple Try.prog 74 (s74 h):=by
 apply w74
 all_goals (first | ((repeat intro _) <;> (try simp only [Bool.cond_true_left,Bool.cond_false_right,Bool.not_not,Bool.not_eq_true',Bool.not_eq_false',Bool.or_eq_true,Bool.or_eq_false_iff,Bool.and_eq_true,decide_eq_true_eq,decide_eq_false_iff_not,inI,big] at *) <;> first | (exact rfl) | omega | (exact ⟨Nat.zero_le _,fun j hj=>absurd hj (Nat.not_lt_zero j)⟩) | (simp_all; done) | (simp_all; omega)) | skip)
theorem w76 (h:Hs) (m:Mrk)
  (o0:fitsH h->(bif within (Mrk.ch m) 0 2 then isThing h (Mrk.th m) else false)=true->0<=Mrk.th m)
  (o1:fitsH h->(bif within (Mrk.ch m) 0 2 then isThing h (Mrk.th m) else false)=true->Mrk.th m < (↑((Hs.things h).length):Int))
  (o2:fitsH h->(bif bif within (Mrk.ch m) 0 2 then isThing h (Mrk.th m) else false then within (Mrk.at_ m) (Thg.at_ (thg h (Mrk.th m).toNat)) 99 else false)=okM h m) :
  Triple Try.prog 76 (s76 h m):=by
 refine triple_of Try.func76 rfl Try.call76 T0_ok _ rfl rfl rfl rfl (Nat.le_of_ble_eq_true (by kernel_rfl)) (fun _ _ _ _ h=>h) ?_
 intro hpre C hC _ hE
 obtain ⟨P,w0,E0,av,hA,ro,df⟩:=C
 obtain ⟨rfl,rfl,rfl⟩:=hC
 refine swp_seq ?_
 refine zR [2,3] [0,8] (Ak 3 tv) ?_
 refine swp_seq ?_
 refine zC ([(2,CallSpec.eq (s7 (Mrk.ch m)) [true]),(7,CallSpec.eq (s107 h (Mrk.th m)) [true,true]),(19,CallSpec.eq (s37 (Mrk.at_ m) (Thg.at_ (thg h (Mrk.th m).toNat)) 99) [true,true,true])]) [4] [] (Ak 2 (An (An (An (zr (iv (Mrk.ch m))) tv) (An (t7 (Mrk.ch m)) (Ak 2 (fun (i0:Env)=>tv)))) (Ak 1 (An (fun (y1:within (Mrk.ch m) 0 2=true)=>(An (Ak 1 tv) tv)) (An (fun (y2:within (Mrk.ch m) 0 2=true)=>(An (Ak 1 tv) tv)) (An (fun (y3:within (Mrk.ch m) 0 2=true)=>(An (An (fun (y4:within (Mrk.ch m) 0 2=true)=>y3) tv) tv)) (An (fun (y5:within (Mrk.ch m) 0 2=true)=>(An (Ak 1 (An (fun (y6:within (Mrk.ch m) 0 2=true)=>y5) (An (fun (y7:within (Mrk.ch m) 0 2=true)=>y5) tv))) (An (An (zr (AV.agg (cHs h))) (An (zr (iv (Mrk.th m))) tv)) (An (t107 (h) (Mrk.th m)) (An hpre (Ak 1 (fun (i8:Env)=>tv))))))) (An (An (fun (y9:within (Mrk.ch m) 0 2=true)=>y9) (fun (y10:within (Mrk.ch m) 0 2=false)=>tv)) (Ak 1 (An (fun (y11:(bif within (Mrk.ch m) 0 2 then isThing h (Mrk.th m) else false)=true)=>(An (Ak 1 tv) tv)) (An (fun (y12:(bif within (Mrk.ch m) 0 2 then isThing h (Mrk.th m) else false)=true)=>(An (An (fun (y13:(bif within (Mrk.ch m) 0 2 then isThing h (Mrk.th m) else false)=true)=>y12) tv) tv)) (An (fun (y14:(bif within (Mrk.ch m) 0 2 then isThing h (Mrk.th m) else false)=true)=>(An (Ak 1 tv) tv)) (An (fun (y15:(bif within (Mrk.ch m) 0 2 then isThing h (Mrk.th m) else false)=true)=>(An (An (fun (y16:(bif within (Mrk.ch m) 0 2 then isThing h (Mrk.th m) else false)=true)=>y15) tv) tv)) (An (fun (y17:(bif within (Mrk.ch m) 0 2 then isThing h (Mrk.th m) else false)=true)=>(An (Ak 1 tv) tv)) (An (fun (y18:(bif within (Mrk.ch m) 0 2 then isThing h (Mrk.th m) else false)=true)=>(An (An (fun (y19:(bif within (Mrk.ch m) 0 2 then isThing h (Mrk.th m) else false)=true)=>y18) tv) tv)) (An (fun (y20:(bif within (Mrk.ch m) 0 2 then isThing h (Mrk.th m) else false)=true)=>(An (An (fun (y21:(bif within (Mrk.ch m) 0 2 then isThing h (Mrk.th m) else false)=true)=>y20) (An (fun (y22:(bif within (Mrk.ch m) 0 2 then isThing h (Mrk.th m) else false)=true)=>y20) tv)) (An (o0 hpre y20) (o1 hpre y20)))) (An (fun (y23:(bif within (Mrk.ch m) 0 2 then isThing h (Mrk.th m) else false)=true)=>(An (An (fun (y24:(bif within (Mrk.ch m) 0 2 then isThing h (Mrk.th m) else false)=true)=>y23) tv) tv)) (An (fun (y25:(bif within (Mrk.ch m) 0 2 then isThing h (Mrk.th m) else false)=true)=>(An (An (fun (y26:(bif within (Mrk.ch m) 0 2 then isThing h (Mrk.th m) else false)=true)=>y25) tv) tv)) (An (fun (y27:(bif within (Mrk.ch m) 0 2 then isThing h (Mrk.th m) else false)=true)=>(An (Ak 1 (An (fun (y28:(bif within (Mrk.ch m) 0 2 then isThing h (Mrk.th m) else false)=true)=>y27) (An (fun (y29:(bif within (Mrk.ch m) 0 2 then isThing h (Mrk.th m) else false)=true)=>y27) (Ak 1 tv)))) (An (An (zr (iv (Mrk.at_ m))) (An (zr (iv (Thg.at_ (thg h (Mrk.th m).toNat)))) (An (zr (iv 99)) tv))) (An (t37 (Mrk.at_ m) (Thg.at_ (thg h (Mrk.th m).toNat)) (99)) (Ak 2 (fun (i30:Env)=>tv)))))) (An (An (fun (y31:(bif within (Mrk.ch m) 0 2 then isThing h (Mrk.th m) else false)=true)=>y31) (fun (y32:(bif within (Mrk.ch m) 0 2 then isThing h (Mrk.th m) else false)=false)=>tv)) (Ak 1 tv))))))))))))))))))))) ?_
 refine swp_ret ?_
 exact zT [] (An (Ak 1 tv) (An (An (cb (o2 hpre)) (zr nilN)) (An (zr true) (An (zr true) (zr true)))))
theorem t76 (h:Hs) (m:Mrk):Triple Try.prog 76 (s76 h m):=by
 apply w76
 case o0 | o1=>intro _ hh; simp only [Bool.cond_false_right,Bool.and_eq_true,isThing_iff] at hh; omega
 all_goals (first | ((repeat intro _) <;> (try simp only [Bool.cond_true_left,Bool.cond_false_right,Bool.not_not,Bool.not_eq_true',Bool.not_eq_false',Bool.or_eq_true,Bool.or_eq_false_iff,Bool.and_eq_true,decide_eq_true_eq,decide_eq_false_iff_not,inI,big] at *) <;> first | (exact rfl) | omega | (exact ⟨Nat.zero_le _,fun j hj=>absurd hj (Nat.not_lt_zero j)⟩) | (simp_all; done) | (simp_all; omega)) | skip)
abbrev qj (h:Hs) (Pq:Prop):Prop:=fitsH h->Pq
abbrev qk (h:Hs) (Pq:Prop):Prop:=qj h ((bif decide (8 < (↑((Hs.things h).length):Int)) then true else decide (6 < (↑((Hs.marks h).length):Int)))=false->Pq)
abbrev ql (h:Hs) (x10:Nat) (Pq:Prop):Prop:=(x10<=(Hs.things h).length /\ ∀ (j:Nat),j < x10->okT h j=true)->Pq
abbrev qm (h:Hs) (x10:Nat) (Pq:Prop):Prop:=ql h x10 (decide ((x10:Int) < (↑((Hs.things h).length):Int))=true->Pq)
abbrev qn (h:Hs) (x10:Nat) (Pq:Prop):Prop:=qm h x10 (((!bif !within (Thg.off (thg h x10)) (-1) ((x10:Int) - 1) then true else !within (Thg.at_ (thg h x10)) 0 99) && !decide (Thg.off (thg h x10) = -1))=true->Pq)
abbrev qo (h:Hs) (x10:Nat) (Pq:Prop):Prop:=qm h x10 ((bif bif bif bif !within (Thg.off (thg h x10)) (-1) ((x10:Int) - 1) then true else !within (Thg.at_ (thg h x10)) 0 99 then true else bif !decide (Thg.off (thg h x10) = -1) then decide (Thg.at_ (thg h x10) < Thg.at_ (thg h (Thg.off (thg h x10)).toNat)) else false then true else !within (Thg.cost (thg h x10)) 0 99 then true else !within (Thg.prints (thg h x10)) 0 1)=false->Pq)
abbrev qp (h:Hs) (x10:Nat) (Pq:Prop):Prop:=ql h x10 (decide ((x10:Int) < (↑((Hs.things h).length):Int))=false->Pq)
abbrev qq (h:Hs) (x76:Nat) (Pq:Prop):Prop:=(x76<=(Hs.marks h).length /\ ∀ (j:Nat),j < x76->okM h ((Hs.marks h).getD j default)=true)->Pq
abbrev qr (h:Hs) (x76:Nat) (Pq:Prop):Prop:=qq h x76 (decide ((x76:Int) < (↑((Hs.marks h).length):Int))=true->Pq)
abbrev qs (h:Hs) (x76:Nat) (Pq:Prop):Prop:=qr h x76 ((!okM h ((Hs.marks h).getD x76 default))=false->Pq)
theorem w33 (h:Hs)
 (o0:qj h (decide (8 < (↑((Hs.things h).length):Int))=false->(!decide (8 < (↑((Hs.things h).length):Int)))=true))
 (o1:qj h ((bif decide (8 < (↑((Hs.things h).length):Int)) then true else decide (6 < (↑((Hs.marks h).length):Int)))=true->70=check7 h))
 (o2:qk h (0=(↑0:Int)))
 (o3:qk h (0<=(Hs.things h).length /\ ∀ (j:Nat),j < 0->okT h j=true))
 (o4:qk h (∀ (x10:Nat),qm h x10 (0<=(x10:Int))))
 (o5:qk h (∀ (x10:Nat),qm h x10 ((x10:Int) < (↑((Hs.things h).length):Int))))
 (o6:qk h (∀ (x10:Nat),qm h x10 (inI ((x10:Int) - 1))))
 (o7:qk h (∀ (x10:Nat),qm h x10 ((!within (Thg.off (thg h x10)) (-1) ((x10:Int) - 1))=false->(!!within (Thg.off (thg h x10)) (-1) ((x10:Int) - 1))=true)))
 (o8:qk h (∀ (x10:Nat),qn h x10 (0<=Thg.off (thg h x10))))
 (o9:qk h (∀ (x10:Nat),qn h x10 (Thg.off (thg h x10) < (↑((Hs.things h).length):Int))))
 (o10:qk h (∀ (x10:Nat),qm h x10 ((!bif !within (Thg.off (thg h x10)) (-1) ((x10:Int) - 1) then true else !within (Thg.at_ (thg h x10)) 0 99)=true->(!decide (Thg.off (thg h x10) = -1))=true->((!bif !within (Thg.off (thg h x10)) (-1) ((x10:Int) - 1) then true else !within (Thg.at_ (thg h x10)) 0 99) && !decide (Thg.off (thg h x10) = -1))=true)))
 (o11:qk h (∀ (x10:Nat),qm h x10 ((bif !within (Thg.off (thg h x10)) (-1) ((x10:Int) - 1) then true else !within (Thg.at_ (thg h x10)) 0 99)=false->(!bif !within (Thg.off (thg h x10)) (-1) ((x10:Int) - 1) then true else !within (Thg.at_ (thg h x10)) 0 99)=true)))
 (o12:qk h (∀ (x10:Nat),qm h x10 ((bif bif !within (Thg.off (thg h x10)) (-1) ((x10:Int) - 1) then true else !within (Thg.at_ (thg h x10)) 0 99 then true else bif !decide (Thg.off (thg h x10) = -1) then decide (Thg.at_ (thg h x10) < Thg.at_ (thg h (Thg.off (thg h x10)).toNat)) else false)=false->(!bif bif !within (Thg.off (thg h x10)) (-1) ((x10:Int) - 1) then true else !within (Thg.at_ (thg h x10)) 0 99 then true else bif !decide (Thg.off (thg h x10) = -1) then decide (Thg.at_ (thg h x10) < Thg.at_ (thg h (Thg.off (thg h x10)).toNat)) else false)=true)))
 (o13:qk h (∀ (x10:Nat),qm h x10 ((bif bif bif !within (Thg.off (thg h x10)) (-1) ((x10:Int) - 1) then true else !within (Thg.at_ (thg h x10)) 0 99 then true else bif !decide (Thg.off (thg h x10) = -1) then decide (Thg.at_ (thg h x10) < Thg.at_ (thg h (Thg.off (thg h x10)).toNat)) else false then true else !within (Thg.cost (thg h x10)) 0 99)=false->(!bif bif bif !within (Thg.off (thg h x10)) (-1) ((x10:Int) - 1) then true else !within (Thg.at_ (thg h x10)) 0 99 then true else bif !decide (Thg.off (thg h x10) = -1) then decide (Thg.at_ (thg h x10) < Thg.at_ (thg h (Thg.off (thg h x10)).toNat)) else false then true else !within (Thg.cost (thg h x10)) 0 99)=true)))
 (o14:qk h (∀ (x10:Nat),qm h x10 ((bif bif bif bif !within (Thg.off (thg h x10)) (-1) ((x10:Int) - 1) then true else !within (Thg.at_ (thg h x10)) 0 99 then true else bif !decide (Thg.off (thg h x10) = -1) then decide (Thg.at_ (thg h x10) < Thg.at_ (thg h (Thg.off (thg h x10)).toNat)) else false then true else !within (Thg.cost (thg h x10)) 0 99 then true else !within (Thg.prints (thg h x10)) 0 1)=true->70=check7 h)))
 (o15:qk h (∀ (x10:Nat),qo h x10 (inI ((x10:Int) + 1))))
 (o16:qk h (∀ (x10:Nat),qo h x10 ((x10:Int) + 1=(↑(x10 + 1):Int))))
 (o17:qk h (∀ (x10:Nat),qo h x10 (x10 + 1<=(Hs.things h).length /\ ∀ (j:Nat),j < x10 + 1->okT h j=true)))
 (o18:qk h (∀ (x10:Nat),qo h x10 ((Hs.things h).length - (x10 + 1) < (Hs.things h).length - x10)))
 (o19:qk h (∀ (x10:Nat),qp h x10 (0=(↑0:Int))))
 (o20:qk h (∀ (x10:Nat),qp h x10 (0<=(Hs.marks h).length /\ ∀ (j:Nat),j < 0->okM h ((Hs.marks h).getD j default)=true)))
 (o21:qk h (∀ (x10:Nat),qp h x10 (∀ (x76:Nat),qr h x76 (0<=(x76:Int)))))
 (o22:qk h (∀ (x10:Nat),qp h x10 (∀ (x76:Nat),qr h x76 ((x76:Int) < (↑((Hs.marks h).length):Int)))))
 (o23:qk h (∀ (x10:Nat),qp h x10 (∀ (x76:Nat),qr h x76 ((!okM h ((Hs.marks h).getD x76 default))=true->70=check7 h))))
 (o24:qk h (∀ (x10:Nat),qp h x10 (∀ (x76:Nat),qs h x76 (inI ((x76:Int) + 1)))))
 (o25:qk h (∀ (x10:Nat),qp h x10 (∀ (x76:Nat),qs h x76 ((x76:Int) + 1=(↑(x76 + 1):Int)))))
 (o26:qk h (∀ (x10:Nat),qp h x10 (∀ (x76:Nat),qs h x76 (x76 + 1<=(Hs.marks h).length /\ ∀ (j:Nat),j < x76 + 1->okM h ((Hs.marks h).getD j default)=true))))
 (o27:qk h (∀ (x10:Nat),qp h x10 (∀ (x76:Nat),qs h x76 ((Hs.marks h).length - (x76 + 1) < (Hs.marks h).length - x76))))
 (o28:qk h (∀ (x10:Nat),qp h x10 (∀ (x76:Nat),qq h x76 (decide ((x76:Int) < (↑((Hs.marks h).length):Int))=false->0=check7 h)))) :
  Triple Try.prog 33 (s33 h):=by
 refine triple_of Try.func33 rfl Try.call33 T0_ok _ rfl rfl rfl rfl (Nat.le_of_ble_eq_true (by kernel_rfl)) (fun _ _ _ _ h=>h) ?_
 intro hpre C hC _ hE
 obtain ⟨P,w0,E0,av,hA,ro,df⟩:=C
 obtain ⟨rfl,rfl,rfl⟩:=hC
 refine swp_seq ?_
 refine zR [1] [0] (Ak 2 tv) ?_
 refine swp_seq ?_
 refine swp_seq ?_
 refine zR [1,15] [0] (Ak 5 (An (fun (y0:(!decide (8 < (↑((Hs.things h).length):Int)))=true)=>(An (Ak 1 tv) tv)) (An (fun (y1:(!decide (8 < (↑((Hs.things h).length):Int)))=true)=>(An (An (fun (y2:(!decide (8 < (↑((Hs.things h).length):Int)))=true)=>y1) tv) tv)) (An (fun (y3:(!decide (8 < (↑((Hs.things h).length):Int)))=true)=>(An (An (fun (y4:(!decide (8 < (↑((Hs.things h).length):Int)))=true)=>y3) tv) tv)) (An (fun (y5:(!decide (8 < (↑((Hs.things h).length):Int)))=true)=>(An (An (fun (y6:(!decide (8 < (↑((Hs.things h).length):Int)))=true)=>y5) (Ak 1 tv)) tv)) (An (An (fun (y7:decide (8 < (↑((Hs.things h).length):Int))=true)=>tv) (fun (y8:decide (8 < (↑((Hs.things h).length):Int))=false)=>(o0 hpre y8))) tv)))))) ?_
 refine zI (bif decide (8 < (↑((Hs.things h).length):Int)) then true else decide (6 < (↑((Hs.marks h).length):Int))) (fun y9 => ?_) (fun y9 => ?_)
 ·refine swp_seq ?_
  refine zR [2] [] (Ak 1 tv) ?_
  refine swp_ret ?_
  exact zT [] (An (Ak 1 tv) (An (An (ci (o1 hpre y9)) (zr nilN)) (An (zr true) (An (zr true) (zr true)))))
 ·refine swp_skip ?_
  refine swp_seq ?_
  refine swp_seq ?_
  refine zR [1,3] [0] (Ak 1 tv) ?_
  refine swp_block ?_
  refine zL (Hint.ann (h33a h) [(1,AV.ptr 0 [])] [(0,OB.cells 25 (cHs h))] 10104) (zE hE [] [(0,.same 0)] [] [0] (An (An (An (zr (some (Src.same 0))) (zr nilP)) (An (An (ci (o2 hpre y9)) (zr nilN)) tv)) (An (An (An (zr (OB.cells 25 (cHs h))) (zr true)) tv) (An (zr true) (zr true))))) (o3 hpre y9) (fun (x10:Nat) hx10 => ?_)
  refine swp_seq ?_
  refine swp_seq ?_
  refine zR [1,3,20] [0] (Ak 5 tv) ?_
  refine zI (decide ((x10:Int) < (↑((Hs.things h).length):Int))) (fun y11 => ?_) (fun y11 => ?_)
  ·refine swp_skip ?_
   refine swp_seq ?_
   refine swp_block ?_
   refine swp_seq ?_
   refine zR [1,3,4] [0,10184] (Ak 3 (An (An (o4 hpre y9 x10 hx10 y11) (o5 hpre y9 x10 hx10 y11)) (Ak 3 tv))) ?_
   refine swp_seq ?_
   refine zC ([(4,CallSpec.eq (s37 (Thg.off (thg h x10)) (-1) ((x10:Int) - 1)) [true,true,true]),(9,CallSpec.eq (s75 (Thg.at_ (thg h x10))) [true]),(32,CallSpec.eq (s37 (Thg.cost (thg h x10)) 0 99) [true,true,true]),(38,CallSpec.eq (s37 (Thg.prints (thg h x10)) 0 1) [true,true,true])]) [1,3,68] [0] (Ak 3 (An (o6 hpre y9 x10 hx10 y11) (An (An (An (zr (iv (Thg.off (thg h x10)))) (An (zr (iv (-1))) (An (zr (iv ((x10:Int) - 1))) tv))) (An (t37 (Thg.off (thg h x10)) (-1) ((x10:Int) - 1)) (Ak 2 (fun (i12:Env)=>tv)))) (Ak 2 (An (fun (y13:(!!within (Thg.off (thg h x10)) (-1) ((x10:Int) - 1))=true)=>(An (Ak 1 tv) tv)) (An (fun (y14:(!!within (Thg.off (thg h x10)) (-1) ((x10:Int) - 1))=true)=>(An (An (fun (y15:(!!within (Thg.off (thg h x10)) (-1) ((x10:Int) - 1))=true)=>y14) tv) tv)) (An (fun (y16:(!!within (Thg.off (thg h x10)) (-1) ((x10:Int) - 1))=true)=>(An (Ak 1 (An (fun (y17:(!!within (Thg.off (thg h x10)) (-1) ((x10:Int) - 1))=true)=>y16) tv)) (An (An (zr (iv (Thg.at_ (thg h x10)))) tv) (An (t75 (Thg.at_ (thg h x10))) (Ak 2 (fun (i18:Env)=>tv)))))) (An (fun (y19:(!!within (Thg.off (thg h x10)) (-1) ((x10:Int) - 1))=true)=>(An (An (fun (y20:(!!within (Thg.off (thg h x10)) (-1) ((x10:Int) - 1))=true)=>y19) tv) tv)) (An (An (fun (y21:(!within (Thg.off (thg h x10)) (-1) ((x10:Int) - 1))=true)=>tv) (fun (y22:(!within (Thg.off (thg h x10)) (-1) ((x10:Int) - 1))=false)=>(o7 hpre y9 x10 hx10 y11 y22))) (Ak 1 (An (fun (y23:(!bif !within (Thg.off (thg h x10)) (-1) ((x10:Int) - 1) then true else !within (Thg.at_ (thg h x10)) 0 99)=true)=>(An (Ak 1 tv) tv)) (An (fun (y24:(!bif !within (Thg.off (thg h x10)) (-1) ((x10:Int) - 1) then true else !within (Thg.at_ (thg h x10)) 0 99)=true)=>(An (An (fun (y25:(!bif !within (Thg.off (thg h x10)) (-1) ((x10:Int) - 1) then true else !within (Thg.at_ (thg h x10)) 0 99)=true)=>y24) tv) tv)) (An (fun (y26:(!bif !within (Thg.off (thg h x10)) (-1) ((x10:Int) - 1) then true else !within (Thg.at_ (thg h x10)) 0 99)=true)=>(An (An (fun (y27:(!bif !within (Thg.off (thg h x10)) (-1) ((x10:Int) - 1) then true else !within (Thg.at_ (thg h x10)) 0 99)=true)=>y26) (Ak 1 tv)) tv)) (An (fun (y28:(!bif !within (Thg.off (thg h x10)) (-1) ((x10:Int) - 1) then true else !within (Thg.at_ (thg h x10)) 0 99)=true)=>(An (An (fun (y29:(!bif !within (Thg.off (thg h x10)) (-1) ((x10:Int) - 1) then true else !within (Thg.at_ (thg h x10)) 0 99)=true)=>y28) tv) tv)) (An (fun (y30:((!bif !within (Thg.off (thg h x10)) (-1) ((x10:Int) - 1) then true else !within (Thg.at_ (thg h x10)) 0 99) && !decide (Thg.off (thg h x10) = -1))=true)=>(An (Ak 1 tv) tv)) (An (fun (y31:((!bif !within (Thg.off (thg h x10)) (-1) ((x10:Int) - 1) then true else !within (Thg.at_ (thg h x10)) 0 99) && !decide (Thg.off (thg h x10) = -1))=true)=>(An (An (fun (y32:((!bif !within (Thg.off (thg h x10)) (-1) ((x10:Int) - 1) then true else !within (Thg.at_ (thg h x10)) 0 99) && !decide (Thg.off (thg h x10) = -1))=true)=>y31) tv) tv)) (An (fun (y33:((!bif !within (Thg.off (thg h x10)) (-1) ((x10:Int) - 1) then true else !within (Thg.at_ (thg h x10)) 0 99) && !decide (Thg.off (thg h x10) = -1))=true)=>(An (Ak 1 tv) tv)) (An (fun (y34:((!bif !within (Thg.off (thg h x10)) (-1) ((x10:Int) - 1) then true else !within (Thg.at_ (thg h x10)) 0 99) && !decide (Thg.off (thg h x10) = -1))=true)=>(An (An (fun (y35:((!bif !within (Thg.off (thg h x10)) (-1) ((x10:Int) - 1) then true else !within (Thg.at_ (thg h x10)) 0 99) && !decide (Thg.off (thg h x10) = -1))=true)=>y34) tv) tv)) (An (fun (y36:((!bif !within (Thg.off (thg h x10)) (-1) ((x10:Int) - 1) then true else !within (Thg.at_ (thg h x10)) 0 99) && !decide (Thg.off (thg h x10) = -1))=true)=>(An (Ak 1 tv) tv)) (An (fun (y37:((!bif !within (Thg.off (thg h x10)) (-1) ((x10:Int) - 1) then true else !within (Thg.at_ (thg h x10)) 0 99) && !decide (Thg.off (thg h x10) = -1))=true)=>(An (An (fun (y38:((!bif !within (Thg.off (thg h x10)) (-1) ((x10:Int) - 1) then true else !within (Thg.at_ (thg h x10)) 0 99) && !decide (Thg.off (thg h x10) = -1))=true)=>y37) tv) tv)) (An (fun (y39:((!bif !within (Thg.off (thg h x10)) (-1) ((x10:Int) - 1) then true else !within (Thg.at_ (thg h x10)) 0 99) && !decide (Thg.off (thg h x10) = -1))=true)=>(An (An (fun (y40:((!bif !within (Thg.off (thg h x10)) (-1) ((x10:Int) - 1) then true else !within (Thg.at_ (thg h x10)) 0 99) && !decide (Thg.off (thg h x10) = -1))=true)=>y39) (An (fun (y41:((!bif !within (Thg.off (thg h x10)) (-1) ((x10:Int) - 1) then true else !within (Thg.at_ (thg h x10)) 0 99) && !decide (Thg.off (thg h x10) = -1))=true)=>y39) tv)) (An (o8 hpre y9 x10 hx10 y11 y39) (o9 hpre y9 x10 hx10 y11 y39)))) (An (fun (y42:((!bif !within (Thg.off (thg h x10)) (-1) ((x10:Int) - 1) then true else !within (Thg.at_ (thg h x10)) 0 99) && !decide (Thg.off (thg h x10) = -1))=true)=>(An (An (fun (y43:((!bif !within (Thg.off (thg h x10)) (-1) ((x10:Int) - 1) then true else !within (Thg.at_ (thg h x10)) 0 99) && !decide (Thg.off (thg h x10) = -1))=true)=>y42) tv) tv)) (An (fun (y44:((!bif !within (Thg.off (thg h x10)) (-1) ((x10:Int) - 1) then true else !within (Thg.at_ (thg h x10)) 0 99) && !decide (Thg.off (thg h x10) = -1))=true)=>(An (An (fun (y45:((!bif !within (Thg.off (thg h x10)) (-1) ((x10:Int) - 1) then true else !within (Thg.at_ (thg h x10)) 0 99) && !decide (Thg.off (thg h x10) = -1))=true)=>y44) tv) tv)) (An (fun (y46:((!bif !within (Thg.off (thg h x10)) (-1) ((x10:Int) - 1) then true else !within (Thg.at_ (thg h x10)) 0 99) && !decide (Thg.off (thg h x10) = -1))=true)=>(An (An (fun (y47:((!bif !within (Thg.off (thg h x10)) (-1) ((x10:Int) - 1) then true else !within (Thg.at_ (thg h x10)) 0 99) && !decide (Thg.off (thg h x10) = -1))=true)=>y46) (An (fun (y48:((!bif !within (Thg.off (thg h x10)) (-1) ((x10:Int) - 1) then true else !within (Thg.at_ (thg h x10)) 0 99) && !decide (Thg.off (thg h x10) = -1))=true)=>y46) tv)) tv)) (An (fun (y49:(!bif !within (Thg.off (thg h x10)) (-1) ((x10:Int) - 1) then true else !within (Thg.at_ (thg h x10)) 0 99)=true)=>(An (An (fun (y50:(!bif !within (Thg.off (thg h x10)) (-1) ((x10:Int) - 1) then true else !within (Thg.at_ (thg h x10)) 0 99)=true)=>y49) tv) (An (fun (y51:(!decide (Thg.off (thg h x10) = -1))=true)=>(o10 hpre y9 x10 hx10 y11 y49 y51)) (fun (y52:(!decide (Thg.off (thg h x10) = -1))=false)=>tv)))) (An (An (fun (y53:(bif !within (Thg.off (thg h x10)) (-1) ((x10:Int) - 1) then true else !within (Thg.at_ (thg h x10)) 0 99)=true)=>tv) (fun (y54:(bif !within (Thg.off (thg h x10)) (-1) ((x10:Int) - 1) then true else !within (Thg.at_ (thg h x10)) 0 99)=false)=>(o11 hpre y9 x10 hx10 y11 y54))) (Ak 1 (An (fun (y55:(!bif bif !within (Thg.off (thg h x10)) (-1) ((x10:Int) - 1) then true else !within (Thg.at_ (thg h x10)) 0 99 then true else bif !decide (Thg.off (thg h x10) = -1) then decide (Thg.at_ (thg h x10) < Thg.at_ (thg h (Thg.off (thg h x10)).toNat)) else false)=true)=>(An (Ak 1 tv) tv)) (An (fun (y56:(!bif bif !within (Thg.off (thg h x10)) (-1) ((x10:Int) - 1) then true else !within (Thg.at_ (thg h x10)) 0 99 then true else bif !decide (Thg.off (thg h x10) = -1) then decide (Thg.at_ (thg h x10) < Thg.at_ (thg h (Thg.off (thg h x10)).toNat)) else false)=true)=>(An (An (fun (y57:(!bif bif !within (Thg.off (thg h x10)) (-1) ((x10:Int) - 1) then true else !within (Thg.at_ (thg h x10)) 0 99 then true else bif !decide (Thg.off (thg h x10) = -1) then decide (Thg.at_ (thg h x10) < Thg.at_ (thg h (Thg.off (thg h x10)).toNat)) else false)=true)=>y56) tv) tv)) (An (fun (y58:(!bif bif !within (Thg.off (thg h x10)) (-1) ((x10:Int) - 1) then true else !within (Thg.at_ (thg h x10)) 0 99 then true else bif !decide (Thg.off (thg h x10) = -1) then decide (Thg.at_ (thg h x10) < Thg.at_ (thg h (Thg.off (thg h x10)).toNat)) else false)=true)=>(An (Ak 1 (An (fun (y59:(!bif bif !within (Thg.off (thg h x10)) (-1) ((x10:Int) - 1) then true else !within (Thg.at_ (thg h x10)) 0 99 then true else bif !decide (Thg.off (thg h x10) = -1) then decide (Thg.at_ (thg h x10) < Thg.at_ (thg h (Thg.off (thg h x10)).toNat)) else false)=true)=>y58) (Ak 2 tv))) (An (An (zr (iv (Thg.cost (thg h x10)))) (An (zr (iv 0)) (An (zr (iv 99)) tv))) (An (t37 (Thg.cost (thg h x10)) (0) (99)) (Ak 2 (fun (i60:Env)=>tv)))))) (An (fun (y61:(!bif bif !within (Thg.off (thg h x10)) (-1) ((x10:Int) - 1) then true else !within (Thg.at_ (thg h x10)) 0 99 then true else bif !decide (Thg.off (thg h x10) = -1) then decide (Thg.at_ (thg h x10) < Thg.at_ (thg h (Thg.off (thg h x10)).toNat)) else false)=true)=>(An (An (fun (y62:(!bif bif !within (Thg.off (thg h x10)) (-1) ((x10:Int) - 1) then true else !within (Thg.at_ (thg h x10)) 0 99 then true else bif !decide (Thg.off (thg h x10) = -1) then decide (Thg.at_ (thg h x10) < Thg.at_ (thg h (Thg.off (thg h x10)).toNat)) else false)=true)=>y61) tv) tv)) (An (An (fun (y63:(bif bif !within (Thg.off (thg h x10)) (-1) ((x10:Int) - 1) then true else !within (Thg.at_ (thg h x10)) 0 99 then true else bif !decide (Thg.off (thg h x10) = -1) then decide (Thg.at_ (thg h x10) < Thg.at_ (thg h (Thg.off (thg h x10)).toNat)) else false)=true)=>tv) (fun (y64:(bif bif !within (Thg.off (thg h x10)) (-1) ((x10:Int) - 1) then true else !within (Thg.at_ (thg h x10)) 0 99 then true else bif !decide (Thg.off (thg h x10) = -1) then decide (Thg.at_ (thg h x10) < Thg.at_ (thg h (Thg.off (thg h x10)).toNat)) else false)=false)=>(o12 hpre y9 x10 hx10 y11 y64))) (Ak 1 (An (fun (y65:(!bif bif bif !within (Thg.off (thg h x10)) (-1) ((x10:Int) - 1) then true else !within (Thg.at_ (thg h x10)) 0 99 then true else bif !decide (Thg.off (thg h x10) = -1) then decide (Thg.at_ (thg h x10) < Thg.at_ (thg h (Thg.off (thg h x10)).toNat)) else false then true else !within (Thg.cost (thg h x10)) 0 99)=true)=>(An (Ak 1 tv) tv)) (An (fun (y66:(!bif bif bif !within (Thg.off (thg h x10)) (-1) ((x10:Int) - 1) then true else !within (Thg.at_ (thg h x10)) 0 99 then true else bif !decide (Thg.off (thg h x10) = -1) then decide (Thg.at_ (thg h x10) < Thg.at_ (thg h (Thg.off (thg h x10)).toNat)) else false then true else !within (Thg.cost (thg h x10)) 0 99)=true)=>(An (An (fun (y67:(!bif bif bif !within (Thg.off (thg h x10)) (-1) ((x10:Int) - 1) then true else !within (Thg.at_ (thg h x10)) 0 99 then true else bif !decide (Thg.off (thg h x10) = -1) then decide (Thg.at_ (thg h x10) < Thg.at_ (thg h (Thg.off (thg h x10)).toNat)) else false then true else !within (Thg.cost (thg h x10)) 0 99)=true)=>y66) tv) tv)) (An (fun (y68:(!bif bif bif !within (Thg.off (thg h x10)) (-1) ((x10:Int) - 1) then true else !within (Thg.at_ (thg h x10)) 0 99 then true else bif !decide (Thg.off (thg h x10) = -1) then decide (Thg.at_ (thg h x10) < Thg.at_ (thg h (Thg.off (thg h x10)).toNat)) else false then true else !within (Thg.cost (thg h x10)) 0 99)=true)=>(An (Ak 1 (An (fun (y69:(!bif bif bif !within (Thg.off (thg h x10)) (-1) ((x10:Int) - 1) then true else !within (Thg.at_ (thg h x10)) 0 99 then true else bif !decide (Thg.off (thg h x10) = -1) then decide (Thg.at_ (thg h x10) < Thg.at_ (thg h (Thg.off (thg h x10)).toNat)) else false then true else !within (Thg.cost (thg h x10)) 0 99)=true)=>y68) (Ak 2 tv))) (An (An (zr (iv (Thg.prints (thg h x10)))) (An (zr (iv 0)) (An (zr (iv 1)) tv))) (An (t37 (Thg.prints (thg h x10)) (0) (1)) (Ak 2 (fun (i70:Env)=>tv)))))) (An (fun (y71:(!bif bif bif !within (Thg.off (thg h x10)) (-1) ((x10:Int) - 1) then true else !within (Thg.at_ (thg h x10)) 0 99 then true else bif !decide (Thg.off (thg h x10) = -1) then decide (Thg.at_ (thg h x10) < Thg.at_ (thg h (Thg.off (thg h x10)).toNat)) else false then true else !within (Thg.cost (thg h x10)) 0 99)=true)=>(An (An (fun (y72:(!bif bif bif !within (Thg.off (thg h x10)) (-1) ((x10:Int) - 1) then true else !within (Thg.at_ (thg h x10)) 0 99 then true else bif !decide (Thg.off (thg h x10) = -1) then decide (Thg.at_ (thg h x10) < Thg.at_ (thg h (Thg.off (thg h x10)).toNat)) else false then true else !within (Thg.cost (thg h x10)) 0 99)=true)=>y71) tv) tv)) (An (An (fun (y73:(bif bif bif !within (Thg.off (thg h x10)) (-1) ((x10:Int) - 1) then true else !within (Thg.at_ (thg h x10)) 0 99 then true else bif !decide (Thg.off (thg h x10) = -1) then decide (Thg.at_ (thg h x10) < Thg.at_ (thg h (Thg.off (thg h x10)).toNat)) else false then true else !within (Thg.cost (thg h x10)) 0 99)=true)=>tv) (fun (y74:(bif bif bif !within (Thg.off (thg h x10)) (-1) ((x10:Int) - 1) then true else !within (Thg.at_ (thg h x10)) 0 99 then true else bif !decide (Thg.off (thg h x10) = -1) then decide (Thg.at_ (thg h x10) < Thg.at_ (thg h (Thg.off (thg h x10)).toNat)) else false then true else !within (Thg.cost (thg h x10)) 0 99)=false)=>(o13 hpre y9 x10 hx10 y11 y74))) tv)))))))))))))))))))))))))))))))))))))) ?_
   refine zI (bif bif bif bif !within (Thg.off (thg h x10)) (-1) ((x10:Int) - 1) then true else !within (Thg.at_ (thg h x10)) 0 99 then true else bif !decide (Thg.off (thg h x10) = -1) then decide (Thg.at_ (thg h x10) < Thg.at_ (thg h (Thg.off (thg h x10)).toNat)) else false then true else !within (Thg.cost (thg h x10)) 0 99 then true else !within (Thg.prints (thg h x10)) 0 1) (fun y75 => ?_) (fun y75 => ?_)
   ·refine swp_seq ?_
    refine zR [2] [] (Ak 1 tv) ?_
    refine swp_ret ?_
    exact zT [] (An (Ak 1 tv) (An (An (ci (o14 hpre y9 x10 hx10 y11 y75)) (zr nilN)) (An (zr true) (An (zr true) (zr true)))))
   ·refine swp_skip ?_
    refine zR [1,3] [0] (Ak 1 (An (o15 hpre y9 x10 hx10 y11 y75) (Ak 1 tv))) ?_
    exact zn (zE hE [] [(0,.same 0)] [] [0] (An (An (An (zr (some (Src.same 0))) (zr nilP)) (An (An (ci (o16 hpre y9 x10 hx10 y11 y75)) (zr nilN)) tv)) (An (An (An (zr (OB.cells 25 (cHs h))) (zr true)) tv) (An (zr true) (zr true))))) (o17 hpre y9 x10 hx10 y11 y75) (o18 hpre y9 x10 hx10 y11 y75)
  ·refine swp_exit ?_
   refine swp_seq ?_
   refine swp_seq ?_
   refine zR [1,5] [0] (Ak 1 tv) ?_
   refine swp_block ?_
   refine zL (Hint.ann (h33b h) [(1,AV.ptr 0 [])] [(0,OB.cells 25 (cHs h))] 20152) (zE hE [] [(0,.same 0)] [] [0] (An (An (An (zr (some (Src.same 0))) (zr nilP)) (An (An (ci (o19 hpre y9 x10 hx10 y11)) (zr nilN)) tv)) (An (An (An (zr (OB.cells 25 (cHs h))) (zr true)) tv) (An (zr true) (zr true))))) (o20 hpre y9 x10 hx10 y11) (fun (x76:Nat) hx76 => ?_)
   refine swp_seq ?_
   refine swp_seq ?_
   refine zR [1,5,73] [0] (Ak 5 tv) ?_
   refine zI (decide ((x76:Int) < (↑((Hs.marks h).length):Int))) (fun y77 => ?_) (fun y77 => ?_)
   ·refine swp_skip ?_
    refine swp_seq ?_
    refine swp_block ?_
    refine swp_seq ?_
    refine zC ([(6,CallSpec.eq (s76 h ((Hs.marks h).getD x76 default)) [true,true])]) [1,5,83] [0] (Ak 4 (An (An (o21 hpre y9 x10 hx10 y11 x76 hx76 y77) (o22 hpre y9 x10 hx10 y11 x76 hx76 y77)) (Ak 1 (An (An (An (zr (AV.agg (cHs h))) (An (zr (AV.agg (cMrk ((Hs.marks h).getD x76 default)))) tv)) (An (t76 (h) ((Hs.marks h).getD x76 default)) (An hpre (Ak 1 (fun (i78:Env)=>tv))))) (Ak 1 tv))))) ?_
    refine zI (!okM h ((Hs.marks h).getD x76 default)) (fun y79 => ?_) (fun y79 => ?_)
    ·refine swp_seq ?_
     refine zR [2] [] (Ak 1 tv) ?_
     refine swp_ret ?_
     exact zT [] (An (Ak 1 tv) (An (An (ci (o23 hpre y9 x10 hx10 y11 x76 hx76 y77 y79)) (zr nilN)) (An (zr true) (An (zr true) (zr true)))))
    ·refine swp_skip ?_
     refine zR [1,5] [0] (Ak 1 (An (o24 hpre y9 x10 hx10 y11 x76 hx76 y77 y79) (Ak 1 tv))) ?_
     exact zn (zE hE [] [(0,.same 0)] [] [0] (An (An (An (zr (some (Src.same 0))) (zr nilP)) (An (An (ci (o25 hpre y9 x10 hx10 y11 x76 hx76 y77 y79)) (zr nilN)) tv)) (An (An (An (zr (OB.cells 25 (cHs h))) (zr true)) tv) (An (zr true) (zr true))))) (o26 hpre y9 x10 hx10 y11 x76 hx76 y77 y79) (o27 hpre y9 x10 hx10 y11 x76 hx76 y77 y79)
   ·refine swp_exit ?_
    refine swp_seq ?_
    refine zR [2] [] (Ak 1 tv) ?_
    refine swp_ret ?_
    exact zT [] (An (Ak 1 tv) (An (An (ci (o28 hpre y9 x10 hx10 y11 x76 hx76 y77)) (zr nilN)) (An (zr true) (An (zr true) (zr true)))))
theorem check7_no {h:Hs} (hn:¬ okH h=true):70=check7 h:=by rw [check7,if_neg hn]
theorem okT5 (a b c d e f:Bool):(bif bif bif bif !a then true else !b then true else bif !c then d else false then true else !e then true else !f) = !(a && b && (c || !d) && e && f):=by cases a <;> cases b <;> cases c <;> cases d <;> cases e <;> cases f <;> rfl
theorem t33 (h:Hs):Triple Try.prog 33 (s33 h):=by
 apply w33
 all_goals (try delta qj qk ql qm qn qo qp qq qr qs)
 case o1=>intro _ hh; exact check7_no fun e=>by have:=okH_iff.1 e; simp only [Bool.cond_true_left,Bool.or_eq_true,decide_eq_true_eq] at hh; omega
 case o8 | o9 =>
  intro _ _ x hx hl hh
  simp only [Bool.and_eq_true,Bool.not_eq_true',Bool.cond_true_left,Bool.or_eq_false_iff,Bool.not_eq_false',Go.Sh.within_iff,decide_eq_false_iff_not,decide_eq_true_eq] at hh hl
  omega
 case o14 =>
  intro _ _ x hx hl hh
  rw [okT5,Bool.not_eq_true'] at hh
  have h2:okT h x=false:=hh
  exact check7_no fun e=>by have:=(okH_iff.1 e).2.2.1 x (by simpa using hl); rw [h2] at this; cases this
 case o17 =>
  intro _ _ x hx hl hh
  rw [okT5,Bool.not_eq_false'] at hh
  have h2:okT h x=true:=hh
  simp only [decide_eq_true_eq] at hl
  exact ⟨by omega,lt_succ_cases hx.2 h2⟩
 case o23 =>
  intro _ _ x hx _ y hy hl hh
  simp only [decide_eq_true_eq] at hl
  exact check7_no fun e=>by have:=(okH_iff.1 e).2.2.2 _ (Go.Ab.getD_mem h.marks default (i:=y) (by omega)); rw [this] at hh; cases hh
 case o26 =>
  intro _ _ x hx _ y hy hl hh
  simp only [decide_eq_true_eq] at hl
  exact ⟨by omega,lt_succ_cases hy.2 (by simpa using hh)⟩
 case o28 =>
  intro _ h1 x hx hl y hy hl2
  simp only [decide_eq_false_iff_not] at hl hl2
  simp only [Bool.cond_true_left,Bool.or_eq_false_iff,decide_eq_false_iff_not] at h1
  have:okH h=true:=okH_iff.2 ⟨by omega,by omega,fun i hi=>hx.2 i (by omega),fun m hm=>by
   obtain ⟨i,hi,rfl⟩:=List.getElem_of_mem hm
   have:=hy.2 i (by omega)
   rwa [Go.Ab.getD_lt _ _ hi] at this⟩
  rw [check7,if_pos this]
 all_goals (first | ((repeat intro _) <;> (try simp only [Bool.cond_true_left,Bool.cond_false_right,Bool.not_not,Bool.not_eq_true',Bool.not_eq_false',Bool.or_eq_true,Bool.or_eq_false_iff,Bool.and_eq_true,decide_eq_true_eq,decide_eq_false_iff_not,inI,big] at *) <;> first | (exact rfl) | omega | (exact ⟨Nat.zero_le _,fun j hj=>absurd hj (Nat.not_lt_zero j)⟩) | (simp_all; done) | (simp_all; omega)) | skip)
theorem w109 (m:Mrk) (h:Hs)
  (o0:fitsH h->(!within (Mrk.ch m) 0 2)=false->(!!within (Mrk.ch m) 0 2)=true)
  (o1:fitsH h->(!bif !within (Mrk.ch m) 0 2 then true else !isThing h (Mrk.th m))=true->0<=Mrk.th m)
  (o2:fitsH h->(!bif !within (Mrk.ch m) 0 2 then true else !isThing h (Mrk.th m))=true->Mrk.th m < (↑((Hs.things h).length):Int))
  (o3:fitsH h->(bif !within (Mrk.ch m) 0 2 then true else !isThing h (Mrk.th m))=false->(!bif !within (Mrk.ch m) 0 2 then true else !isThing h (Mrk.th m))=true)
  (o4:fitsH h->(bif bif !within (Mrk.ch m) 0 2 then true else !isThing h (Mrk.th m) then true else !within (Mrk.at_ m) (Thg.at_ (thg h (Mrk.th m).toNat)) 99) = !okM h m) :
  Triple Try.prog 109 (s109 m h):=by
 refine triple_of Try.func109 rfl Try.call109 T0_ok _ rfl rfl rfl rfl (Nat.le_of_ble_eq_true (by kernel_rfl)) (fun _ _ _ _ h=>h) ?_
 intro hpre C hC _ hE
 obtain ⟨P,w0,E0,av,hA,ro,df⟩:=C
 obtain ⟨rfl,rfl,rfl⟩:=hC
 refine swp_seq ?_
 refine zR [1,2] [0] (Ak 2 tv) ?_
 refine swp_seq ?_
 refine zC ([(2,CallSpec.eq (s43 (Mrk.ch m)) [true]),(8,CallSpec.eq (s110 h (Mrk.th m)) [true,true]),(21,CallSpec.eq (s79 (Mrk.at_ m) (Thg.at_ (thg h (Mrk.th m).toNat)) 99) [true,true,true])]) [3] [] (Ak 2 (An (An (An (zr (iv (Mrk.ch m))) tv) (An (t43 (Mrk.ch m)) (Ak 2 (fun (i0:Env)=>tv)))) (Ak 2 (An (fun (y1:(!!within (Mrk.ch m) 0 2)=true)=>(An (Ak 1 tv) tv)) (An (fun (y2:(!!within (Mrk.ch m) 0 2)=true)=>(An (Ak 1 tv) tv)) (An (fun (y3:(!!within (Mrk.ch m) 0 2)=true)=>(An (An (fun (y4:(!!within (Mrk.ch m) 0 2)=true)=>y3) tv) tv)) (An (fun (y5:(!!within (Mrk.ch m) 0 2)=true)=>(An (Ak 1 (An (fun (y6:(!!within (Mrk.ch m) 0 2)=true)=>y5) (An (fun (y7:(!!within (Mrk.ch m) 0 2)=true)=>y5) tv))) (An (An (zr (AV.agg (cHs h))) (An (zr (iv (Mrk.th m))) tv)) (An (t110 (h) (Mrk.th m)) (An hpre (Ak 1 (fun (i8:Env)=>tv))))))) (An (fun (y9:(!!within (Mrk.ch m) 0 2)=true)=>(An (An (fun (y10:(!!within (Mrk.ch m) 0 2)=true)=>y9) tv) tv)) (An (An (fun (y11:(!within (Mrk.ch m) 0 2)=true)=>tv) (fun (y12:(!within (Mrk.ch m) 0 2)=false)=>(o0 hpre y12))) (Ak 1 (An (fun (y13:(!bif !within (Mrk.ch m) 0 2 then true else !isThing h (Mrk.th m))=true)=>(An (Ak 1 tv) tv)) (An (fun (y14:(!bif !within (Mrk.ch m) 0 2 then true else !isThing h (Mrk.th m))=true)=>(An (An (fun (y15:(!bif !within (Mrk.ch m) 0 2 then true else !isThing h (Mrk.th m))=true)=>y14) tv) tv)) (An (fun (y16:(!bif !within (Mrk.ch m) 0 2 then true else !isThing h (Mrk.th m))=true)=>(An (Ak 1 tv) tv)) (An (fun (y17:(!bif !within (Mrk.ch m) 0 2 then true else !isThing h (Mrk.th m))=true)=>(An (An (fun (y18:(!bif !within (Mrk.ch m) 0 2 then true else !isThing h (Mrk.th m))=true)=>y17) tv) tv)) (An (fun (y19:(!bif !within (Mrk.ch m) 0 2 then true else !isThing h (Mrk.th m))=true)=>(An (Ak 1 tv) tv)) (An (fun (y20:(!bif !within (Mrk.ch m) 0 2 then true else !isThing h (Mrk.th m))=true)=>(An (An (fun (y21:(!bif !within (Mrk.ch m) 0 2 then true else !isThing h (Mrk.th m))=true)=>y20) tv) tv)) (An (fun (y22:(!bif !within (Mrk.ch m) 0 2 then true else !isThing h (Mrk.th m))=true)=>(An (An (fun (y23:(!bif !within (Mrk.ch m) 0 2 then true else !isThing h (Mrk.th m))=true)=>y22) (An (fun (y24:(!bif !within (Mrk.ch m) 0 2 then true else !isThing h (Mrk.th m))=true)=>y22) tv)) (An (o1 hpre y22) (o2 hpre y22)))) (An (fun (y25:(!bif !within (Mrk.ch m) 0 2 then true else !isThing h (Mrk.th m))=true)=>(An (An (fun (y26:(!bif !within (Mrk.ch m) 0 2 then true else !isThing h (Mrk.th m))=true)=>y25) tv) tv)) (An (fun (y27:(!bif !within (Mrk.ch m) 0 2 then true else !isThing h (Mrk.th m))=true)=>(An (An (fun (y28:(!bif !within (Mrk.ch m) 0 2 then true else !isThing h (Mrk.th m))=true)=>y27) tv) tv)) (An (fun (y29:(!bif !within (Mrk.ch m) 0 2 then true else !isThing h (Mrk.th m))=true)=>(An (Ak 1 (An (fun (y30:(!bif !within (Mrk.ch m) 0 2 then true else !isThing h (Mrk.th m))=true)=>y29) (An (fun (y31:(!bif !within (Mrk.ch m) 0 2 then true else !isThing h (Mrk.th m))=true)=>y29) (Ak 1 tv)))) (An (An (zr (iv (Mrk.at_ m))) (An (zr (iv (Thg.at_ (thg h (Mrk.th m).toNat)))) (An (zr (iv 99)) tv))) (An (t79 (Mrk.at_ m) (Thg.at_ (thg h (Mrk.th m).toNat)) (99)) (Ak 2 (fun (i32:Env)=>tv)))))) (An (fun (y33:(!bif !within (Mrk.ch m) 0 2 then true else !isThing h (Mrk.th m))=true)=>(An (An (fun (y34:(!bif !within (Mrk.ch m) 0 2 then true else !isThing h (Mrk.th m))=true)=>y33) tv) tv)) (An (An (fun (y35:(bif !within (Mrk.ch m) 0 2 then true else !isThing h (Mrk.th m))=true)=>tv) (fun (y36:(bif !within (Mrk.ch m) 0 2 then true else !isThing h (Mrk.th m))=false)=>(o3 hpre y36))) (Ak 1 tv))))))))))))))))))))))) ?_
 refine swp_ret ?_
 exact zT [] (An (Ak 1 tv) (An (An (cb (o4 hpre)) (zr nilN)) (An (zr true) (An (zr true) (zr true)))))
theorem okM3 (a b c:Bool):(bif bif !a then true else !b then true else !c) = !(a && b && c):=by cases a <;> cases b <;> cases c <;> rfl
theorem t109 (m:Mrk) (h:Hs):Triple Try.prog 109 (s109 m h):=by
 apply w109
 case o1 | o2 =>
  intro _ hh
  simp only [Bool.cond_true_left,Bool.not_eq_true',Bool.or_eq_false_iff,Bool.not_eq_false',isThing_iff] at hh
  omega
 case o4=>intro _; exact okM3 _ _ _
 all_goals (first | ((repeat intro _) <;> (try simp only [Bool.cond_true_left,Bool.cond_false_right,Bool.not_not,Bool.not_eq_true',Bool.not_eq_false',Bool.or_eq_true,Bool.or_eq_false_iff,Bool.and_eq_true,decide_eq_true_eq,decide_eq_false_iff_not,inI,big] at *) <;> first | (exact rfl) | omega | (exact ⟨Nat.zero_le _,fun j hj=>absurd hj (Nat.not_lt_zero j)⟩) | (simp_all; done) | (simp_all; omega)) | skip)
abbrev qt (l:List Mrk) (p:Mrk->Bool) (E0:Env) (Pq:Prop):Prop:=fnokOf Try.prog 0 (fun (m:Mrk)=>[vMrk m]) (fun (m:Mrk)=>bv (p m)) E0->l.length<=1125899906842624->Pq
abbrev qu (l:List Mrk) (p:Mrk->Bool) (x0:Nat) (Pq:Prop):Prop:=(x0<=l.length /\ ∀ (j:Nat),j < x0->p (l.getD j default)=false)->Pq
abbrev qv (l:List Mrk) (p:Mrk->Bool) (x0:Nat) (Pq:Prop):Prop:=qu l p x0 (decide ((x0:Int) < (↑(l.length):Int))=true->Pq)
theorem w132 (l:List Mrk) (p:Mrk->Bool)
 (o0:∀ (E0:Env),qt l p E0 (0=(↑0:Int)))
 (o1:∀ (E0:Env),qt l p E0 (0<=l.length /\ ∀ (j:Nat),j < 0->p (l.getD j default)=false))
 (o2:∀ (E0:Env),qt l p E0 (∀ (x0:Nat),qv l p x0 (0<=(x0:Int))))
 (o3:∀ (E0:Env),qt l p E0 (∀ (x0:Nat),qv l p x0 ((x0:Int) < (↑(l.length):Int))))
 (o4:∀ (E0:Env),qt l p E0 (∀ (x0:Nat),qv l p x0 (∀ (i2:Value),E0.4 0 i2->FnOK Try.prog E0 i2 [vMrk (l.getD x0 default)] (bv (p (l.getD x0 default))))))
 (o5:∀ (E0:Env),qt l p E0 (∀ (x0:Nat),qv l p x0 (p (l.getD x0 default)=true->(x0:Int)=idxG l p)))
 (o6:∀ (E0:Env),qt l p E0 (∀ (x0:Nat),qv l p x0 (p (l.getD x0 default)=false->inI ((x0:Int) + 1))))
 (o7:∀ (E0:Env),qt l p E0 (∀ (x0:Nat),qv l p x0 (p (l.getD x0 default)=false->(x0:Int) + 1=(↑(x0 + 1):Int))))
 (o8:∀ (E0:Env),qt l p E0 (∀ (x0:Nat),qv l p x0 (p (l.getD x0 default)=false->x0 + 1<=l.length /\ ∀ (j:Nat),j < x0 + 1->p (l.getD j default)=false)))
 (o9:∀ (E0:Env),qt l p E0 (∀ (x0:Nat),qv l p x0 (p (l.getD x0 default)=false->l.length - (x0 + 1) < l.length - x0)))
 (o10:∀ (E0:Env),qt l p E0 (∀ (x0:Nat),qu l p x0 (decide ((x0:Int) < (↑(l.length):Int))=false -> -1=idxG l p))) :
  Triple Try.prog 132 (s132 l p):=by
 refine triple_of Try.func132 rfl Try.call132 T0_ok _ rfl rfl rfl rfl (Nat.le_of_ble_eq_true (by kernel_rfl)) fnokOf_congr ?_
 intro hpre C hC hfn hE
 obtain ⟨P,w0,E0,av,hA,ro,df⟩:=C
 obtain ⟨rfl,rfl,rfl⟩:=hC
 refine swp_seq ?_
 refine zR [0,1] [] (Ak 1 tv) ?_
 refine swp_seq ?_
 refine swp_seq ?_
 refine zR [0,1,7,8] [] (Ak 3 tv) ?_
 refine swp_block ?_
 refine zL (Hint.ann (h132 l p) [(0,aMrks l),(1,AV.fn 0),(7,iv (↑(l.length):Int))] [] 10032) (zE hE [] [] [0,1,7] [] (An (An (An (zr (aMrks l)) (zr true)) (An (An (zr (AV.fn 0)) (zr true)) (An (An (zr (iv (↑(l.length):Int))) (zr true)) (An (An (ci (o0 E0 hfn hpre)) (zr nilN)) tv)))) (Ak 1 (An (zr true) (zr true))))) (o1 E0 hfn hpre) (fun (x0:Nat) hx0 => ?_)
 refine swp_seq ?_
 refine zR [0,1,7,8,9] [] (Ak 1 tv) ?_
 refine swp_seq ?_
 refine zI (decide ((x0:Int) < (↑(l.length):Int))) (fun y1 => ?_) (fun y1 => ?_)
 ·refine swp_skip ?_
  refine swp_seq ?_
  refine swp_block ?_
  refine swp_seq ?_
  refine zR [0,1,7,8,5] [] (Ak 2 tv) ?_
  refine swp_seq ?_
  refine zC ([(5,CallSpec.eq (c132 l p x0) [true])]) [0,1,7,8,5,16] [] (Ak 3 (An (An (o2 E0 hfn hpre x0 hx0 y1) (o3 E0 hfn hpre x0 hx0 y1)) (Ak 1 (An (An (An (An (zr (iv (Mrk.ch (l.getD x0 default)))) (An (zr (iv (Mrk.th (l.getD x0 default)))) (An (zr (iv (Mrk.at_ (l.getD x0 default)))) tv))) tv) (fun (i2:Value)=>(fun (y3:E0.4 0 i2)=>(o4 E0 hfn hpre x0 hx0 y1 i2 y3)))) tv)))) ?_
  refine zI (p (l.getD x0 default)) (fun y4 => ?_) (fun y4 => ?_)
  ·refine swp_seq ?_
   refine zR [4] [] (Ak 2 tv) ?_
   refine swp_ret ?_
   exact zT [] (An (Ak 1 tv) (An (An (ci (o5 E0 hfn hpre x0 hx0 y1 y4)) (zr nilN)) (An (zr true) (An (zr true) (zr true)))))
  ·refine swp_skip ?_
   refine zR [0,1,7,8] [] (An (o6 E0 hfn hpre x0 hx0 y1 y4) (Ak 1 tv)) ?_
   exact zn (zE hE [] [] [0,1,7] [] (An (An (An (zr (aMrks l)) (zr true)) (An (An (zr (AV.fn 0)) (zr true)) (An (An (zr (iv (↑(l.length):Int))) (zr true)) (An (An (ci (o7 E0 hfn hpre x0 hx0 y1 y4)) (zr nilN)) tv)))) (Ak 1 (An (zr true) (zr true))))) (o8 E0 hfn hpre x0 hx0 y1 y4) (o9 E0 hfn hpre x0 hx0 y1 y4)
 ·refine swp_exit ?_
  refine swp_seq ?_
  refine zR [4] [] (Ak 1 tv) ?_
  refine swp_ret ?_
  exact zT [] (An (Ak 1 tv) (An (An (ci (o10 E0 hfn hpre x0 hx0 y1)) (zr nilN)) (An (zr true) (An (zr true) (zr true)))))
theorem t132 (l:List Mrk) (p:Mrk->Bool):Triple Try.prog 132 (s132 l p):=by
 apply w132
 all_goals (try delta qt qu qv)
 case o4=>intro E0 hfn hp x hx hl u hu; exact hfn u hu _
 case o5=>intro E0 hfn hp x hx hl h; simp only [decide_eq_true_eq] at hl; exact (idxG_found (by omega) hx.2 h).symm
 case o8=>intro E0 hfn hp x hx hl h; simp only [decide_eq_true_eq] at hl; exact ⟨by omega,lt_succ_cases hx.2 h⟩
 case o10=>intro E0 hfn hp x hx hl; simp only [decide_eq_false_iff_not] at hl; exact (idxG_none (fun j hj=>hx.2 j (by omega))).symm
 all_goals (first | ((repeat intro _) <;> (try simp only [Bool.cond_true_left,Bool.cond_false_right,Bool.not_not,Bool.not_eq_true',Bool.not_eq_false',Bool.or_eq_true,Bool.or_eq_false_iff,Bool.and_eq_true,decide_eq_true_eq,decide_eq_false_iff_not,inI,big] at *) <;> first | (exact rfl) | omega | (exact ⟨Nat.zero_le _,fun j hj=>absurd hj (Nat.not_lt_zero j)⟩) | (simp_all; done) | (simp_all; omega)) | skip)
theorem w108 (l:List Mrk) (p:Mrk->Bool)
  (o0:∀ (E0:Env),fnokOf Try.prog 0 (fun (m:Mrk)=>[vMrk m]) (fun (m:Mrk)=>bv (p m)) E0->l.length<=1125899906842624 -> ∀ (i0:Env) (i1:List Value),Env.le E0 i0->i1.length=2->(∀ (k:Nat),Rel i0 true (List.getD [aMrks l,AV.fn 0] k AV.any) (i1.getD k undef))->fnokOf Try.prog 0 (fun (m:Mrk)=>[vMrk m]) (fun (m:Mrk)=>bv (p m)) (Env.mk i0.1 i0.2 i0.3 fun (k:Nat) (u:Value) => ∃ (i:Nat),[aMrks l,AV.fn 0][i]? = some (AV.fn k)/\i1[i]? = some u))
  (o1:∀ (E0:Env),fnokOf Try.prog 0 (fun (m:Mrk)=>[vMrk m]) (fun (m:Mrk)=>bv (p m)) E0->l.length<=1125899906842624->decide (0<=idxG l p)=List.any l p) :
  Triple Try.prog 108 (s108 l p):=by
 refine triple_of Try.func108 rfl Try.call108 T0_ok _ rfl rfl rfl rfl (Nat.le_of_ble_eq_true (by kernel_rfl)) fnokOf_congr ?_
 intro hpre C hC hfn hE
 obtain ⟨P,w0,E0,av,hA,ro,df⟩:=C
 obtain ⟨rfl,rfl,rfl⟩:=hC
 refine swp_seq ?_
 refine zR [0,1] [] (Ak 1 tv) ?_
 refine swp_seq ?_
 refine zC ([(2,CallSpec.eq (c108 l p) [true,true])]) [4] [] (Ak 2 (An (An (An (zr (aMrks l)) (An (zr (AV.fn 0)) tv)) (An (t132 (l) (p)) (An hpre (Ak 1 (fun (i0:Env)=>(fun (i1:List Value)=>(fun (y2:Env.le E0 i0)=>(fun (y3:i1.length=2)=>(fun (y4:∀ (k:Nat),Rel i0 true (List.getD [aMrks l,AV.fn 0] k AV.any) (i1.getD k undef))=>(o0 E0 hfn hpre i0 i1 y2 y3 y4)))))))))) (Ak 2 tv))) ?_
 refine swp_ret ?_
 exact zT [] (An (Ak 1 tv) (An (An (cb (o1 E0 hfn hpre)) (zr nilN)) (An (zr true) (An (zr true) (zr true)))))
theorem t108 (l:List Mrk) (p:Mrk->Bool):Triple Try.prog 108 (s108 l p):=by
 apply w108
 case o0 =>
  intro E0 hfn hp E us le hl hr
  refine fnok_pass 1 (fun j' h => ?_) rfl hfn E us le hl hr
  match j',h with
  | 0,h=>cases h
  | 1,_=>rfl
  | n + 2,h=>simp at h
 case o1=>intros; exact idxG_any _ _
 all_goals (first | ((repeat intro _) <;> (try simp only [Bool.cond_true_left,Bool.cond_false_right,Bool.not_not,Bool.not_eq_true',Bool.not_eq_false',Bool.or_eq_true,Bool.or_eq_false_iff,Bool.and_eq_true,decide_eq_true_eq,decide_eq_false_iff_not,inI,big] at *) <;> first | (exact rfl) | omega | (exact ⟨Nat.zero_le _,fun j hj=>absurd hj (Nat.not_lt_zero j)⟩) | (simp_all; done) | (simp_all; omega)) | skip)
abbrev qw (h:Hs) (Pq:Prop):Prop:=okH h=true->Pq
abbrev qx (h:Hs) (x9:Nat) (Pq:Prop):Prop:=x9<=(Hs.things h).length->Pq
abbrev qy (h:Hs) (x9:Nat) (Pq:Prop):Prop:=qx h x9 (decide ((x9:Int) < (↑((Hs.things h).length):Int))=true->Pq)
abbrev qz (h:Hs) (x9:Nat) (Pq:Prop):Prop:=qy h x9 ((bif decide (0 < (x9:Int)) then within (Thg.off (thg h x9)) 0 ((x9:Int) - 1) else false)=true->Pq)
abbrev q10 (h:Hs) (x9:Nat) (Pq:Prop):Prop:=qy h x9 ((bif decide (0 < (x9:Int)) then within (Thg.off (thg h x9)) 0 ((x9:Int) - 1) else false)=false->Pq)
theorem w78 (h:Hs)
 (o0:qw h (decide (8 < (↑((Hs.things h).length):Int))=false->(!decide (8 < (↑((Hs.things h).length):Int)))=true))
 (o1:qw h ((bif decide (8 < (↑((Hs.things h).length):Int)) then true else decide (6 < (↑((Hs.marks h).length):Int)))=false))
 (o2:qw h (0=(↑0:Int)))
 (o3:qw h (0<=List.length (Hs.things h)))
 (o4:qw h (∀ (x9:Nat),qy h x9 (0<=(x9:Int))))
 (o5:qw h (∀ (x9:Nat),qy h x9 ((x9:Int) < (↑((Hs.things h).length):Int))))
 (o6:qw h (∀ (x9:Nat),qy h x9 (decide (0 < (x9:Int))=true->inI ((x9:Int) - 1))))
 (o7:qw h (∀ (x9:Nat),qz h x9 (0<=Thg.off (thg h x9))))
 (o8:qw h (∀ (x9:Nat),qz h x9 (Thg.off (thg h x9) < (↑((Hs.things h).length):Int))))
 (o9:qw h (∀ (x9:Nat),qz h x9 ((!within (Thg.at_ (thg h x9)) (Thg.at_ (thg h (Thg.off (thg h x9)).toNat)) 99)=false->(!!within (Thg.at_ (thg h x9)) (Thg.at_ (thg h (Thg.off (thg h x9)).toNat)) 99)=true)))
 (o10:qw h (∀ (x9:Nat),qz h x9 ((bif !within (Thg.at_ (thg h x9)) (Thg.at_ (thg h (Thg.off (thg h x9)).toNat)) 99 then true else !within (Thg.cost (thg h x9)) 0 99)=false->(!bif !within (Thg.at_ (thg h x9)) (Thg.at_ (thg h (Thg.off (thg h x9)).toNat)) 99 then true else !within (Thg.cost (thg h x9)) 0 99)=true)))
 (o11:qw h (∀ (x9:Nat),qz h x9 ((bif bif !within (Thg.at_ (thg h x9)) (Thg.at_ (thg h (Thg.off (thg h x9)).toNat)) 99 then true else !within (Thg.cost (thg h x9)) 0 99 then true else !within (Thg.prints (thg h x9)) 0 1)=false)))
 (o12:qw h (∀ (x9:Nat),qz h x9 (inI ((x9:Int) + 1))))
 (o13:qw h (∀ (x9:Nat),qz h x9 ((x9:Int) + 1=(↑(x9 + 1):Int))))
 (o14:qw h (∀ (x9:Nat),qz h x9 (x9 + 1<=(Hs.things h).length)))
 (o15:qw h (∀ (x9:Nat),qz h x9 ((Hs.things h).length - (x9 + 1) < (Hs.things h).length - x9)))
 (o16:qw h (∀ (x9:Nat),q10 h x9 ((!decide (Thg.off (thg h x9) = -1))=false)))
 (o17:qw h (∀ (x9:Nat),q10 h x9 ((!within (Thg.at_ (thg h x9)) 0 99)=false->(!!within (Thg.at_ (thg h x9)) 0 99)=true)))
 (o18:qw h (∀ (x9:Nat),q10 h x9 ((bif !within (Thg.at_ (thg h x9)) 0 99 then true else !within (Thg.cost (thg h x9)) 0 99)=false->(!bif !within (Thg.at_ (thg h x9)) 0 99 then true else !within (Thg.cost (thg h x9)) 0 99)=true)))
 (o19:qw h (∀ (x9:Nat),q10 h x9 ((bif bif !within (Thg.at_ (thg h x9)) 0 99 then true else !within (Thg.cost (thg h x9)) 0 99 then true else !within (Thg.prints (thg h x9)) 0 1)=false)))
 (o20:qw h (∀ (x9:Nat),q10 h x9 (inI ((x9:Int) + 1))))
 (o21:qw h (∀ (x9:Nat),q10 h x9 ((x9:Int) + 1=(↑(x9 + 1):Int))))
 (o22:qw h (∀ (x9:Nat),q10 h x9 (x9 + 1<=(Hs.things h).length)))
 (o23:qw h (∀ (x9:Nat),q10 h x9 ((Hs.things h).length - (x9 + 1) < (Hs.things h).length - x9)))
 (o24:qw h (∀ (x9:Nat),qx h x9 (decide ((x9:Int) < (↑((Hs.things h).length):Int))=false->(Hs.marks h).length<=1125899906842624)))
 (o25:∀ (E0:Env),okH h=true -> ∀ (x9:Nat),x9<=(Hs.things h).length->decide ((x9:Int) < (↑((Hs.things h).length):Int))=false -> ∀ (i66:Env) (i67:List Value),Env.le E0 i66->i67.length=2->(∀ (k:Nat),Rel i66 true (List.getD [aMrks (Hs.marks h),AV.clo 109 [AV.rp (cHs h)]] k AV.any) (i67.getD k undef))->fnokOf Try.prog 0 (fun (m:Mrk)=>[vMrk m]) (fun (m:Mrk)=>bv !okM h m) (Env.mk i66.1 i66.2 i66.3 fun (k:Nat) (u:Value) => ∃ (i:Nat),[aMrks (Hs.marks h),AV.fn 0][i]? = some (AV.fn k)/\i67[i]? = some u))
 (o26:qw h (∀ (x9:Nat),qx h x9 (decide ((x9:Int) < (↑((Hs.things h).length):Int))=false->(List.any (Hs.marks h) fun (m:Mrk) => !okM h m)=false))) :
  Triple Try.prog 78 (s78 h):=by
 refine triple_of Try.func78 rfl Try.call78 T0_ok _ rfl rfl rfl rfl (Nat.le_of_ble_eq_true (by kernel_rfl)) (fun _ _ _ _ h=>h) ?_
 intro hpre C hC _ hE
 obtain ⟨P,w0,E0,av,hA,ro,df⟩:=C
 obtain ⟨rfl,rfl,rfl⟩:=hC
 refine swp_seq ?_
 refine zR [1] [0] (Ak 2 tv) ?_
 refine swp_seq ?_
 refine swp_seq ?_
 refine zR [1,15] [0] (Ak 5 (An (fun (y0:(!decide (8 < (↑((Hs.things h).length):Int)))=true)=>(An (Ak 1 tv) tv)) (An (fun (y1:(!decide (8 < (↑((Hs.things h).length):Int)))=true)=>(An (An (fun (y2:(!decide (8 < (↑((Hs.things h).length):Int)))=true)=>y1) tv) tv)) (An (fun (y3:(!decide (8 < (↑((Hs.things h).length):Int)))=true)=>(An (An (fun (y4:(!decide (8 < (↑((Hs.things h).length):Int)))=true)=>y3) tv) tv)) (An (fun (y5:(!decide (8 < (↑((Hs.things h).length):Int)))=true)=>(An (An (fun (y6:(!decide (8 < (↑((Hs.things h).length):Int)))=true)=>y5) (Ak 1 tv)) tv)) (An (An (fun (y7:decide (8 < (↑((Hs.things h).length):Int))=true)=>tv) (fun (y8:decide (8 < (↑((Hs.things h).length):Int))=false)=>(o0 hpre y8))) tv)))))) ?_
 refine zI (bif decide (8 < (↑((Hs.things h).length):Int)) then true else decide (6 < (↑((Hs.marks h).length):Int))) (fun h=>by cases (h.symm.trans (o1 hpre))) (fun _ => ?_)
 refine swp_skip ?_
 refine swp_seq ?_
 refine swp_seq ?_
 refine zR [1,17,18,19] [0] (Ak 4 tv) ?_
 refine swp_block ?_
 refine zL (Hint.ann (h78 h) [(1,AV.ptr 0 []),(17,AV.sl 4 (Hs.things h).length fun (i:Nat)=>cThg (thg h i)),(18,iv (↑((Hs.things h).length):Int))] [(0,OB.cells 25 (cHs h))] 10128) (zE hE [] [(0,.same 0)] [17,18] [0] (An (An (An (zr (some (Src.same 0))) (zr nilP)) (An (An (zr (AV.sl 4 (Hs.things h).length fun (i:Nat)=>cThg (thg h i))) (zr true)) (An (An (zr (iv (↑((Hs.things h).length):Int))) (zr true)) (An (An (ci (o2 hpre)) (zr nilN)) tv)))) (An (An (An (zr (OB.cells 25 (cHs h))) (zr true)) tv) (An (zr true) (zr true))))) (o3 hpre) (fun (x9:Nat) hx9 => ?_)
 refine swp_seq ?_
 refine zR [1,17,18,19,20] [0] (Ak 1 tv) ?_
 refine swp_seq ?_
 refine zI (decide ((x9:Int) < (↑((Hs.things h).length):Int))) (fun y10 => ?_) (fun y10 => ?_)
 ·refine swp_skip ?_
  refine swp_seq ?_
  refine swp_block ?_
  refine swp_seq ?_
  refine zR [1,17,18,19,4,3] [0,10160] (Ak 1 (An (An (o4 hpre x9 hx9 y10) (o5 hpre x9 hx9 y10)) (Ak 4 tv))) ?_
  refine swp_seq ?_
  refine zR [1,17,18,19,4,3,5] [0,10160] (Ak 1 tv) ?_
  refine swp_seq ?_
  refine swp_seq ?_
  refine zC ([(7,CallSpec.eq (s79 (Thg.off (thg h x9)) 0 ((x9:Int) - 1)) [true,true,true])]) [1,17,18,19,4,5,32] [0,10160] (Ak 3 (An (fun (y11:decide (0 < (x9:Int))=true)=>(An (Ak 1 tv) tv)) (An (fun (y12:decide (0 < (x9:Int))=true)=>(An (An (fun (y13:decide (0 < (x9:Int))=true)=>y12) tv) tv)) (An (fun (y14:decide (0 < (x9:Int))=true)=>(An (Ak 1 tv) tv)) (An (fun (y15:decide (0 < (x9:Int))=true)=>(An (An (fun (y16:decide (0 < (x9:Int))=true)=>y15) (Ak 1 tv)) (o6 hpre x9 hx9 y10 y15))) (An (fun (y17:decide (0 < (x9:Int))=true)=>(An (Ak 1 (An (fun (y18:decide (0 < (x9:Int))=true)=>y17) (Ak 1 (An (fun (y19:decide (0 < (x9:Int))=true)=>y17) tv)))) (An (An (zr (iv (Thg.off (thg h x9)))) (An (zr (iv 0)) (An (zr (iv ((x9:Int) - 1))) tv))) (An (t79 (Thg.off (thg h x9)) (0) ((x9:Int) - 1)) (Ak 2 (fun (i20:Env)=>tv)))))) (An (An (fun (y21:decide (0 < (x9:Int))=true)=>y21) (fun (y22:decide (0 < (x9:Int))=false)=>tv)) tv))))))) ?_
  refine zI (bif decide (0 < (x9:Int)) then within (Thg.off (thg h x9)) 0 ((x9:Int) - 1) else false) (fun y23 => ?_) (fun y23 => ?_)
  ·refine zR [1,17,18,19,4,5] [0,10160] (Ak 4 (An (An (o7 hpre x9 hx9 y10 y23) (o8 hpre x9 hx9 y10 y23)) (Ak 3 tv))) ?_
   refine swp_seq ?_
   refine zC ([(3,CallSpec.eq (s79 (Thg.at_ (thg h x9)) (Thg.at_ (thg h (Thg.off (thg h x9)).toNat)) 99) [true,true,true]),(8,CallSpec.eq (s79 (Thg.cost (thg h x9)) 0 99) [true,true,true]),(14,CallSpec.eq (s79 (Thg.prints (thg h x9)) 0 1) [true,true,true])]) [1,17,18,19,59] [0] (Ak 3 (An (An (An (zr (iv (Thg.at_ (thg h x9)))) (An (zr (iv (Thg.at_ (thg h (Thg.off (thg h x9)).toNat)))) (An (zr (iv 99)) tv))) (An (t79 (Thg.at_ (thg h x9)) (Thg.at_ (thg h (Thg.off (thg h x9)).toNat)) (99)) (Ak 2 (fun (i24:Env)=>tv)))) (Ak 2 (An (fun (y25:(!!within (Thg.at_ (thg h x9)) (Thg.at_ (thg h (Thg.off (thg h x9)).toNat)) 99)=true)=>(An (Ak 1 tv) tv)) (An (fun (y26:(!!within (Thg.at_ (thg h x9)) (Thg.at_ (thg h (Thg.off (thg h x9)).toNat)) 99)=true)=>(An (An (fun (y27:(!!within (Thg.at_ (thg h x9)) (Thg.at_ (thg h (Thg.off (thg h x9)).toNat)) 99)=true)=>y26) tv) tv)) (An (fun (y28:(!!within (Thg.at_ (thg h x9)) (Thg.at_ (thg h (Thg.off (thg h x9)).toNat)) 99)=true)=>(An (Ak 1 (An (fun (y29:(!!within (Thg.at_ (thg h x9)) (Thg.at_ (thg h (Thg.off (thg h x9)).toNat)) 99)=true)=>y28) (Ak 2 tv))) (An (An (zr (iv (Thg.cost (thg h x9)))) (An (zr (iv 0)) (An (zr (iv 99)) tv))) (An (t79 (Thg.cost (thg h x9)) (0) (99)) (Ak 2 (fun (i30:Env)=>tv)))))) (An (fun (y31:(!!within (Thg.at_ (thg h x9)) (Thg.at_ (thg h (Thg.off (thg h x9)).toNat)) 99)=true)=>(An (An (fun (y32:(!!within (Thg.at_ (thg h x9)) (Thg.at_ (thg h (Thg.off (thg h x9)).toNat)) 99)=true)=>y31) tv) tv)) (An (An (fun (y33:(!within (Thg.at_ (thg h x9)) (Thg.at_ (thg h (Thg.off (thg h x9)).toNat)) 99)=true)=>tv) (fun (y34:(!within (Thg.at_ (thg h x9)) (Thg.at_ (thg h (Thg.off (thg h x9)).toNat)) 99)=false)=>(o9 hpre x9 hx9 y10 y23 y34))) (Ak 1 (An (fun (y35:(!bif !within (Thg.at_ (thg h x9)) (Thg.at_ (thg h (Thg.off (thg h x9)).toNat)) 99 then true else !within (Thg.cost (thg h x9)) 0 99)=true)=>(An (Ak 1 tv) tv)) (An (fun (y36:(!bif !within (Thg.at_ (thg h x9)) (Thg.at_ (thg h (Thg.off (thg h x9)).toNat)) 99 then true else !within (Thg.cost (thg h x9)) 0 99)=true)=>(An (An (fun (y37:(!bif !within (Thg.at_ (thg h x9)) (Thg.at_ (thg h (Thg.off (thg h x9)).toNat)) 99 then true else !within (Thg.cost (thg h x9)) 0 99)=true)=>y36) tv) tv)) (An (fun (y38:(!bif !within (Thg.at_ (thg h x9)) (Thg.at_ (thg h (Thg.off (thg h x9)).toNat)) 99 then true else !within (Thg.cost (thg h x9)) 0 99)=true)=>(An (Ak 1 (An (fun (y39:(!bif !within (Thg.at_ (thg h x9)) (Thg.at_ (thg h (Thg.off (thg h x9)).toNat)) 99 then true else !within (Thg.cost (thg h x9)) 0 99)=true)=>y38) (Ak 2 tv))) (An (An (zr (iv (Thg.prints (thg h x9)))) (An (zr (iv 0)) (An (zr (iv 1)) tv))) (An (t79 (Thg.prints (thg h x9)) (0) (1)) (Ak 2 (fun (i40:Env)=>tv)))))) (An (fun (y41:(!bif !within (Thg.at_ (thg h x9)) (Thg.at_ (thg h (Thg.off (thg h x9)).toNat)) 99 then true else !within (Thg.cost (thg h x9)) 0 99)=true)=>(An (An (fun (y42:(!bif !within (Thg.at_ (thg h x9)) (Thg.at_ (thg h (Thg.off (thg h x9)).toNat)) 99 then true else !within (Thg.cost (thg h x9)) 0 99)=true)=>y41) tv) tv)) (An (An (fun (y43:(bif !within (Thg.at_ (thg h x9)) (Thg.at_ (thg h (Thg.off (thg h x9)).toNat)) 99 then true else !within (Thg.cost (thg h x9)) 0 99)=true)=>tv) (fun (y44:(bif !within (Thg.at_ (thg h x9)) (Thg.at_ (thg h (Thg.off (thg h x9)).toNat)) 99 then true else !within (Thg.cost (thg h x9)) 0 99)=false)=>(o10 hpre x9 hx9 y10 y23 y44))) tv)))))))))))))) ?_
   refine zI (bif bif !within (Thg.at_ (thg h x9)) (Thg.at_ (thg h (Thg.off (thg h x9)).toNat)) 99 then true else !within (Thg.cost (thg h x9)) 0 99 then true else !within (Thg.prints (thg h x9)) 0 1) (fun h=>by cases (h.symm.trans (o11 hpre x9 hx9 y10 y23))) (fun _ => ?_)
   refine swp_skip ?_
   refine zR [1,17,18,19] [0] (An (o12 hpre x9 hx9 y10 y23) (Ak 1 tv)) ?_
   exact zn (zE hE [] [(0,.same 0)] [17,18] [0] (An (An (An (zr (some (Src.same 0))) (zr nilP)) (An (An (zr (AV.sl 4 (Hs.things h).length fun (i:Nat)=>cThg (thg h i))) (zr true)) (An (An (zr (iv (↑((Hs.things h).length):Int))) (zr true)) (An (An (ci (o13 hpre x9 hx9 y10 y23)) (zr nilN)) tv)))) (An (An (An (zr (OB.cells 25 (cHs h))) (zr true)) tv) (An (zr true) (zr true))))) (o14 hpre x9 hx9 y10 y23) (o15 hpre x9 hx9 y10 y23)
  ·refine swp_seq ?_
   refine zR [1,17,18,19,4,5,42] [0,10160] (Ak 3 tv) ?_
   refine zI (!decide (Thg.off (thg h x9) = -1)) (fun h=>by cases (h.symm.trans (o16 hpre x9 hx9 y10 y23))) (fun _ => ?_)
   refine swp_skip ?_
   refine swp_seq ?_
   refine zC ([(3,CallSpec.eq (s79 (Thg.at_ (thg h x9)) 0 99) [true,true,true]),(8,CallSpec.eq (s79 (Thg.cost (thg h x9)) 0 99) [true,true,true]),(14,CallSpec.eq (s79 (Thg.prints (thg h x9)) 0 1) [true,true,true])]) [1,17,18,19,59] [0] (Ak 3 (An (An (An (zr (iv (Thg.at_ (thg h x9)))) (An (zr (iv 0)) (An (zr (iv 99)) tv))) (An (t79 (Thg.at_ (thg h x9)) (0) (99)) (Ak 2 (fun (i45:Env)=>tv)))) (Ak 2 (An (fun (y46:(!!within (Thg.at_ (thg h x9)) 0 99)=true)=>(An (Ak 1 tv) tv)) (An (fun (y47:(!!within (Thg.at_ (thg h x9)) 0 99)=true)=>(An (An (fun (y48:(!!within (Thg.at_ (thg h x9)) 0 99)=true)=>y47) tv) tv)) (An (fun (y49:(!!within (Thg.at_ (thg h x9)) 0 99)=true)=>(An (Ak 1 (An (fun (y50:(!!within (Thg.at_ (thg h x9)) 0 99)=true)=>y49) (Ak 2 tv))) (An (An (zr (iv (Thg.cost (thg h x9)))) (An (zr (iv 0)) (An (zr (iv 99)) tv))) (An (t79 (Thg.cost (thg h x9)) (0) (99)) (Ak 2 (fun (i51:Env)=>tv)))))) (An (fun (y52:(!!within (Thg.at_ (thg h x9)) 0 99)=true)=>(An (An (fun (y53:(!!within (Thg.at_ (thg h x9)) 0 99)=true)=>y52) tv) tv)) (An (An (fun (y54:(!within (Thg.at_ (thg h x9)) 0 99)=true)=>tv) (fun (y55:(!within (Thg.at_ (thg h x9)) 0 99)=false)=>(o17 hpre x9 hx9 y10 y23 y55))) (Ak 1 (An (fun (y56:(!bif !within (Thg.at_ (thg h x9)) 0 99 then true else !within (Thg.cost (thg h x9)) 0 99)=true)=>(An (Ak 1 tv) tv)) (An (fun (y57:(!bif !within (Thg.at_ (thg h x9)) 0 99 then true else !within (Thg.cost (thg h x9)) 0 99)=true)=>(An (An (fun (y58:(!bif !within (Thg.at_ (thg h x9)) 0 99 then true else !within (Thg.cost (thg h x9)) 0 99)=true)=>y57) tv) tv)) (An (fun (y59:(!bif !within (Thg.at_ (thg h x9)) 0 99 then true else !within (Thg.cost (thg h x9)) 0 99)=true)=>(An (Ak 1 (An (fun (y60:(!bif !within (Thg.at_ (thg h x9)) 0 99 then true else !within (Thg.cost (thg h x9)) 0 99)=true)=>y59) (Ak 2 tv))) (An (An (zr (iv (Thg.prints (thg h x9)))) (An (zr (iv 0)) (An (zr (iv 1)) tv))) (An (t79 (Thg.prints (thg h x9)) (0) (1)) (Ak 2 (fun (i61:Env)=>tv)))))) (An (fun (y62:(!bif !within (Thg.at_ (thg h x9)) 0 99 then true else !within (Thg.cost (thg h x9)) 0 99)=true)=>(An (An (fun (y63:(!bif !within (Thg.at_ (thg h x9)) 0 99 then true else !within (Thg.cost (thg h x9)) 0 99)=true)=>y62) tv) tv)) (An (An (fun (y64:(bif !within (Thg.at_ (thg h x9)) 0 99 then true else !within (Thg.cost (thg h x9)) 0 99)=true)=>tv) (fun (y65:(bif !within (Thg.at_ (thg h x9)) 0 99 then true else !within (Thg.cost (thg h x9)) 0 99)=false)=>(o18 hpre x9 hx9 y10 y23 y65))) tv)))))))))))))) ?_
   refine zI (bif bif !within (Thg.at_ (thg h x9)) 0 99 then true else !within (Thg.cost (thg h x9)) 0 99 then true else !within (Thg.prints (thg h x9)) 0 1) (fun h=>by cases (h.symm.trans (o19 hpre x9 hx9 y10 y23))) (fun _ => ?_)
   refine swp_skip ?_
   refine zR [1,17,18,19] [0] (An (o20 hpre x9 hx9 y10 y23) (Ak 1 tv)) ?_
   exact zn (zE hE [] [(0,.same 0)] [17,18] [0] (An (An (An (zr (some (Src.same 0))) (zr nilP)) (An (An (zr (AV.sl 4 (Hs.things h).length fun (i:Nat)=>cThg (thg h i))) (zr true)) (An (An (zr (iv (↑((Hs.things h).length):Int))) (zr true)) (An (An (ci (o21 hpre x9 hx9 y10 y23)) (zr nilN)) tv)))) (An (An (An (zr (OB.cells 25 (cHs h))) (zr true)) tv) (An (zr true) (zr true))))) (o22 hpre x9 hx9 y10 y23) (o23 hpre x9 hx9 y10 y23)
 ·refine swp_exit ?_
  refine swp_seq ?_
  refine swp_seq ?_
  refine swp_ent (zF 0) ?_
  refine zC ([(3,CallSpec.eq (c78 h) [true,false])]) [64] [] (Ak 3 (An (An (An (zr (aMrks (Hs.marks h))) (Ak 1 tv)) (An (t108 (Hs.marks h) (fun (m:Mrk) => !okM h m)) (An (o24 hpre x9 hx9 y10) (Ak 1 (fun (i66:Env)=>(fun (i67:List Value)=>(fun (y68:Env.le E0 i66)=>(fun (y69:i67.length=2)=>(fun (y70:∀ (k:Nat),Rel i66 true (List.getD [aMrks (Hs.marks h),AV.clo 109 [AV.rp (cHs h)]] k AV.any) (i67.getD k undef))=>(o25 E0 hpre x9 hx9 y10 i66 i67 y68 y69 y70)))))))))) tv)) ?_
  refine zI (List.any (Hs.marks h) fun (m:Mrk) => !okM h m) (fun h=>by cases (h.symm.trans (o26 hpre x9 hx9 y10))) (fun _ => ?_)
  refine swp_skip ?_
  refine swp_seq ?_
  refine zR [2] [] (Ak 1 tv) ?_
  refine swp_ret ?_
  exact zT [] (An (Ak 1 tv) (An (An (zr (iv 0)) (zr nilN)) (An (zr true) (An (zr true) (zr true)))))
theorem okT_facts {h:Hs} {i:Nat} (hh:okT h i=true):(-1<=(thg h i).off/\(thg h i).off<=(i:Int) - 1)/\(0<=(thg h i).at_/\(thg h i).at_<=99)/\((thg h i).off = -1 ∨ ¬ (thg h i).at_ < (thg h (thg h i).off.toNat).at_)/\within (thg h i).cost 0 99=true/\within (thg h i).prints 0 1=true:=by
 simp only [okT,Bool.and_eq_true,Bool.or_eq_true,Bool.not_eq_true',decide_eq_true_eq,decide_eq_false_iff_not] at hh
 obtain ⟨⟨⟨⟨a,b⟩,c⟩,e⟩,f⟩:=hh
 exact ⟨Go.Sh.within_iff.1 a,Go.Sh.within_iff.1 b,c,e,f⟩
theorem t78 (h:Hs):Triple Try.prog 78 (s78 h):=by
 apply w78
 all_goals (try delta qw qx qy qz q10)
 case o25 =>
  intro E0 hok x hx hl E us le hlen hr
  obtain ⟨l1,l2,hT,hM⟩:=okH_iff.1 hok
  refine fnok_arg (vals:=[aMrks h.marks,.clo 109 [.rp (cHs h)]]) 1 (fun j' h => ?_) (fun E u hu m=>fnok_clo (caps:=[.rp (cHs h)]) (s109 m h) (t109 m h) rfl ⟨by omega,by omega⟩ (fun _=>trivial) rfl rfl rfl rfl rfl hu) E us le hlen hr
  match j',h with
  | 0,h=>cases h
  | 1,_=>rfl
  | n + 2,h=>simp at h
 all_goals (intro hok; obtain ⟨l1,l2,hT,hM⟩:=okH_iff.1 hok)
 case o1=>rw [decide_eq_false (by omega),decide_eq_false (by omega)]; rfl
 case o24=>intro x hx hl; omega
 case o26 =>
  intro x hx hl
  rw [List.any_eq_false]
  intro m hm
  rw [hM m hm]; simp
 all_goals (first | ((repeat intro _) <;> (try simp only [Bool.cond_true_left,Bool.cond_false_right,Bool.not_not,Bool.not_eq_true',Bool.not_eq_false',Bool.or_eq_true,Bool.or_eq_false_iff,Bool.and_eq_true,decide_eq_true_eq,decide_eq_false_iff_not,inI,big] at *) <;> first | (exact rfl) | omega | (exact ⟨Nat.zero_le _,fun j hj=>absurd hj (Nat.not_lt_zero j)⟩) | (simp_all; done) | (simp_all; omega)) | skip)
 all_goals (intro x hx hl; simp only [decide_eq_true_eq] at hl; obtain ⟨f1,f2,f3,f4,f5⟩:=okT_facts (hT x (by omega)))
 case o7 | o8=>intro hh; simp only [Bool.cond_false_right,Bool.and_eq_true,Go.Sh.within_iff] at hh; omega
 case o11 =>
  intro hh
  simp only [Bool.cond_false_right,Bool.and_eq_true,Go.Sh.within_iff] at hh
  rw [f4,f5]
  have:within (thg h x).at_ (thg h (thg h x).off.toNat).at_ 99=true:=Go.Sh.within_iff.2 (by omega)
  rw [this]; rfl
 case o16 =>
  intro hh
  have:(thg h x).off = -1:=by
   rcases Nat.eq_zero_or_pos x with e | e
   ·omega
   ·rw [decide_eq_true (p:=(0:Int) < x) (by omega)] at hh
    have:¬ within (thg h x).off 0 ((x:Int) - 1)=true:=by rw [show within (thg h x).off 0 ((x:Int) - 1)=false from hh]; decide
    rw [Go.Sh.within_iff] at this
    omega
  rw [decide_eq_true this]; rfl
 case o19 =>
  intro hh
  rw [f4,f5,Go.Sh.within_iff.2 f2]; rfl
theorem w42 (h:Hs) (is:Bool)
  (o0:okH h=true/\is=true->(!is)=false) :
  Triple Try.prog 42 (s42 h is):=by
 refine triple_of Try.func42 rfl Try.call42 T0_ok _ rfl rfl rfl rfl (Nat.le_of_ble_eq_true (by kernel_rfl)) (fun _ _ _ _ h=>h) ?_
 intro hpre C hC _ hE
 obtain ⟨P,w0,E0,av,hA,ro,df⟩:=C
 obtain ⟨rfl,rfl,rfl⟩:=hC
 refine swp_seq ?_
 refine zR [1,2] [0] (Ak 2 tv) ?_
 refine swp_seq ?_
 refine swp_seq ?_
 refine zC ([(1,CallSpec.eq (s78 h) [true])]) [1,5] [] (Ak 1 (An (An (An (zr (AV.agg (cHs h))) tv) (An (t78 (h)) (An hpre.1 (Ak 1 (fun (i0:Env)=>tv))))) (Ak 1 tv))) ?_
 refine swp_seq ?_
 refine zR [1,5,9] [] (Ak 2 tv) ?_
 refine zf ?_
 refine swp_skip ?_
 refine swp_seq ?_
 refine swp_seq ?_
 refine zR [12] [] (Ak 2 tv) ?_
 refine zI (!is) (fun h=>by cases (h.symm.trans (o0 hpre))) (fun _ => ?_)
 refine swp_skip ?_
 refine swp_seq ?_
 refine zR [4] [] (Ak 1 tv) ?_
 refine swp_ret ?_
 exact zT [] (An (Ak 1 tv) (An (An (zr (iv 0)) (zr nilN)) (An (zr true) (An (zr true) (zr true)))))
theorem t42 (h:Hs) (is:Bool):Triple Try.prog 42 (s42 h is):=by
 apply w42
 all_goals (first | ((repeat intro _) <;> (try simp only [Bool.cond_true_left,Bool.cond_false_right,Bool.not_not,Bool.not_eq_true',Bool.not_eq_false',Bool.or_eq_true,Bool.or_eq_false_iff,Bool.and_eq_true,decide_eq_true_eq,decide_eq_false_iff_not,inI,big] at *) <;> first | (exact rfl) | omega | (exact ⟨Nat.zero_le _,fun j hj=>absurd hj (Nat.not_lt_zero j)⟩) | (simp_all; done) | (simp_all; omega)) | skip)
theorem w34 (n:Int) (lo:Int) (hi:Int) :
  Triple Try.prog 34 (s34 n lo hi):=by
 refine triple_of Try.func34 rfl Try.call34 T0_ok _ rfl rfl rfl rfl (Nat.le_of_ble_eq_true (by kernel_rfl)) (fun _ _ _ _ h=>h) ?_
 intro _ C hC _ hE
 obtain ⟨P,w0,E0,av,hA,ro,df⟩:=C
 obtain ⟨rfl,rfl,rfl⟩:=hC
 refine swp_seq ?_
 refine zR [0,1,2] [] (Ak 1 tv) ?_
 refine swp_seq ?_
 refine zC ([(3,CallSpec.eq (s46 n lo hi) [true,true,true])]) [6] [] (Ak 3 (An (An (An (zr (iv n)) (An (zr (iv lo)) (An (zr (iv hi)) tv))) (An (t46 (n) (lo) (hi)) (Ak 2 (fun (i0:Env)=>tv)))) (Ak 1 tv))) ?_
 refine swp_ret ?_
 exact zT [] (An (Ak 1 tv) (An (An (zr (bv (within n lo hi))) (zr nilN)) (An (zr true) (An (zr true) (zr true)))))
theorem t34 (n lo hi:Int):Triple Try.prog 34 (s34 n lo hi):=by
 apply w34
 all_goals (first | ((repeat intro _) <;> (try simp only [Bool.cond_true_left,Bool.cond_false_right,Bool.not_not,Bool.not_eq_true',Bool.not_eq_false',Bool.or_eq_true,Bool.or_eq_false_iff,Bool.and_eq_true,decide_eq_true_eq,decide_eq_false_iff_not,inI,big] at *) <;> first | (exact rfl) | omega | (exact ⟨Nat.zero_le _,fun j hj=>absurd hj (Nat.not_lt_zero j)⟩) | (simp_all; done) | (simp_all; omega)) | skip)
theorem w85 (n:Int) (lo:Int) (hi:Int)
  (o0:(bif decide (lo<=n) then decide (n<=hi) else false)=within n lo hi) :
  Triple Try.prog 85 (s85 n lo hi):=by
 refine triple_of Try.func85 rfl Try.call85 T0_ok _ rfl rfl rfl rfl (Nat.le_of_ble_eq_true (by kernel_rfl)) (fun _ _ _ _ h=>h) ?_
 intro _ C hC _ hE
 obtain ⟨P,w0,E0,av,hA,ro,df⟩:=C
 obtain ⟨rfl,rfl,rfl⟩:=hC
 refine swp_seq ?_
 refine zR [0,1,2] [] (Ak 1 tv) ?_
 refine swp_seq ?_
 refine zR [6] [] (Ak 4 (An (fun (y0:decide (lo<=n)=true)=>(An (Ak 1 tv) tv)) (An (fun (y1:decide (lo<=n)=true)=>(An (Ak 1 tv) tv)) (An (fun (y2:decide (lo<=n)=true)=>(An (An (fun (y3:decide (lo<=n)=true)=>y2) (An (fun (y4:decide (lo<=n)=true)=>y2) tv)) tv)) (An (An (fun (y5:decide (lo<=n)=true)=>y5) (fun (y6:decide (lo<=n)=false)=>tv)) (Ak 1 tv)))))) ?_
 refine swp_ret ?_
 exact zT [] (An (Ak 1 tv) (An (An (cb (o0)) (zr nilN)) (An (zr true) (An (zr true) (zr true)))))
theorem t85 (n lo hi:Int):Triple Try.prog 85 (s85 n lo hi):=by
 apply w85
 all_goals (first | ((repeat intro _) <;> (try simp only [Bool.cond_true_left,Bool.cond_false_right,Bool.not_not,Bool.not_eq_true',Bool.not_eq_false',Bool.or_eq_true,Bool.or_eq_false_iff,Bool.and_eq_true,decide_eq_true_eq,decide_eq_false_iff_not,inI,big] at *) <;> first | (exact rfl) | omega | (exact ⟨Nat.zero_le _,fun j hj=>absurd hj (Nat.not_lt_zero j)⟩) | (simp_all; done) | (simp_all; omega)) | skip)
theorem w35 (t:Twn) (n:Int)
  (o0:fitsT t->inI ((↑((Twn.rooms t).length):Int) - 1))
  (o1:fitsT t->within n 0 ((↑((Twn.rooms t).length):Int) - 1)=isBld t n) :
  Triple Try.prog 35 (s35 t n):=by
 refine triple_of Try.func35 rfl Try.call35 T0_ok _ rfl rfl rfl rfl (Nat.le_of_ble_eq_true (by kernel_rfl)) (fun _ _ _ _ h=>h) ?_
 intro hpre C hC _ hE
 obtain ⟨P,w0,E0,av,hA,ro,df⟩:=C
 obtain ⟨rfl,rfl,rfl⟩:=hC
 refine swp_seq ?_
 refine zR [1,2] [0] (Ak 2 tv) ?_
 refine swp_seq ?_
 refine zC ([(5,CallSpec.eq (s34 n 0 ((↑((Twn.rooms t).length):Int) - 1)) [true,true,true])]) [4] [] (Ak 4 (An (o0 hpre) (An (An (An (zr (iv n)) (An (zr (iv 0)) (An (zr (iv ((↑((Twn.rooms t).length):Int) - 1))) tv))) (An (t34 (n) (0) ((↑((Twn.rooms t).length):Int) - 1)) (Ak 2 (fun (i0:Env)=>tv)))) (Ak 1 tv)))) ?_
 refine swp_ret ?_
 exact zT [] (An (Ak 1 tv) (An (An (cb (o1 hpre)) (zr nilN)) (An (zr true) (An (zr true) (zr true)))))
theorem t35 (t:Twn) (n:Int):Triple Try.prog 35 (s35 t n):=by
 apply w35
 case o0=>intro h; have:=h.2.2.2; exact ⟨by omega,by omega⟩
 all_goals (first | ((repeat intro _) <;> (try simp only [Bool.cond_true_left,Bool.cond_false_right,Bool.not_not,Bool.not_eq_true',Bool.not_eq_false',Bool.or_eq_true,Bool.or_eq_false_iff,Bool.and_eq_true,decide_eq_true_eq,decide_eq_false_iff_not,inI,big] at *) <;> first | (exact rfl) | omega | (exact ⟨Nat.zero_le _,fun j hj=>absurd hj (Nat.not_lt_zero j)⟩) | (simp_all; done) | (simp_all; omega)) | skip)
theorem w50 (t:Twn) (n:Int)
  (o0:fitsT t->inI ((↑((Twn.rooms t).length):Int) - 1))
  (o1:fitsT t->within n 0 ((↑((Twn.rooms t).length):Int) - 1)=isBld t n) :
  Triple Try.prog 50 (s50 t n):=by
 refine triple_of Try.func50 rfl Try.call50 T0_ok _ rfl rfl rfl rfl (Nat.le_of_ble_eq_true (by kernel_rfl)) (fun _ _ _ _ h=>h) ?_
 intro hpre C hC _ hE
 obtain ⟨P,w0,E0,av,hA,ro,df⟩:=C
 obtain ⟨rfl,rfl,rfl⟩:=hC
 refine swp_seq ?_
 refine zR [1,2] [0] (Ak 2 tv) ?_
 refine swp_seq ?_
 refine zC ([(5,CallSpec.eq (s85 n 0 ((↑((Twn.rooms t).length):Int) - 1)) [true,true,true])]) [4] [] (Ak 4 (An (o0 hpre) (An (An (An (zr (iv n)) (An (zr (iv 0)) (An (zr (iv ((↑((Twn.rooms t).length):Int) - 1))) tv))) (An (t85 (n) (0) ((↑((Twn.rooms t).length):Int) - 1)) (Ak 2 (fun (i0:Env)=>tv)))) (Ak 1 tv)))) ?_
 refine swp_ret ?_
 exact zT [] (An (Ak 1 tv) (An (An (cb (o1 hpre)) (zr nilN)) (An (zr true) (An (zr true) (zr true)))))
theorem t50 (t:Twn) (n:Int):Triple Try.prog 50 (s50 t n):=by
 apply w50
 case o0=>intro h; have:=h.2.2.2; exact ⟨by omega,by omega⟩
 all_goals (first | ((repeat intro _) <;> (try simp only [Bool.cond_true_left,Bool.cond_false_right,Bool.not_not,Bool.not_eq_true',Bool.not_eq_false',Bool.or_eq_true,Bool.or_eq_false_iff,Bool.and_eq_true,decide_eq_true_eq,decide_eq_false_iff_not,inI,big] at *) <;> first | (exact rfl) | omega | (exact ⟨Nat.zero_le _,fun j hj=>absurd hj (Nat.not_lt_zero j)⟩) | (simp_all; done) | (simp_all; omega)) | skip)
theorem w48 (t:Twn) (n:Int)
  (o0:fitsT t->inI ((↑((Hs.things (Twn.house t)).length):Int) - 1))
  (o1:fitsT t->within n 0 ((↑((Hs.things (Twn.house t)).length):Int) - 1)=isThing (Twn.house t) n) :
  Triple Try.prog 48 (s48 t n):=by
 refine triple_of Try.func48 rfl Try.call48 T0_ok _ rfl rfl rfl rfl (Nat.le_of_ble_eq_true (by kernel_rfl)) (fun _ _ _ _ h=>h) ?_
 intro hpre C hC _ hE
 obtain ⟨P,w0,E0,av,hA,ro,df⟩:=C
 obtain ⟨rfl,rfl,rfl⟩:=hC
 refine swp_seq ?_
 refine zR [1,2] [0] (Ak 2 tv) ?_
 refine swp_seq ?_
 refine zC ([(6,CallSpec.eq (s85 n 0 ((↑((Hs.things (Twn.house t)).length):Int) - 1)) [true,true,true])]) [4] [] (Ak 5 (An (o0 hpre) (An (An (An (zr (iv n)) (An (zr (iv 0)) (An (zr (iv ((↑((Hs.things (Twn.house t)).length):Int) - 1))) tv))) (An (t85 (n) (0) ((↑((Hs.things (Twn.house t)).length):Int) - 1)) (Ak 2 (fun (i0:Env)=>tv)))) (Ak 1 tv)))) ?_
 refine swp_ret ?_
 exact zT [] (An (Ak 1 tv) (An (An (cb (o1 hpre)) (zr nilN)) (An (zr true) (An (zr true) (zr true)))))
theorem t48 (t:Twn) (n:Int):Triple Try.prog 48 (s48 t n):=by
 apply w48
 case o0=>intro h; have:=h.1.1; exact ⟨by omega,by omega⟩
 all_goals (first | ((repeat intro _) <;> (try simp only [Bool.cond_true_left,Bool.cond_false_right,Bool.not_not,Bool.not_eq_true',Bool.not_eq_false',Bool.or_eq_true,Bool.or_eq_false_iff,Bool.and_eq_true,decide_eq_true_eq,decide_eq_false_iff_not,inI,big] at *) <;> first | (exact rfl) | omega | (exact ⟨Nat.zero_le _,fun j hj=>absurd hj (Nat.not_lt_zero j)⟩) | (simp_all; done) | (simp_all; omega)) | skip)
theorem w14 (t:Twn) (n:Int)
  (o0:0<=n/\n < (↑((Hs.things (Twn.house t)).length):Int)->decide (Thg.at_ (thg (Twn.house t) n.toNat)<=Twn.minute t)=thereT t n.toNat) :
  Triple Try.prog 14 (s14 t n):=by
 refine triple_of Try.func14 rfl Try.call14 T0_ok _ rfl rfl rfl rfl (Nat.le_of_ble_eq_true (by kernel_rfl)) (fun _ _ _ _ h=>h) ?_
 intro hpre C hC _ hE
 obtain ⟨P,w0,E0,av,hA,ro,df⟩:=C
 obtain ⟨rfl,rfl,rfl⟩:=hC
 refine swp_seq ?_
 refine zR [1,2] [0] (Ak 2 tv) ?_
 refine swp_seq ?_
 refine zR [4] [] (Ak 4 (An (An hpre.1 hpre.2) (Ak 6 tv))) ?_
 refine swp_ret ?_
 exact zT [] (An (Ak 1 tv) (An (An (cb (o0 hpre)) (zr nilN)) (An (zr true) (An (zr true) (zr true)))))
theorem t14 (t:Twn) (n:Int):Triple Try.prog 14 (s14 t n):=by
 apply w14
 all_goals (first | ((repeat intro _) <;> (try simp only [Bool.cond_true_left,Bool.cond_false_right,Bool.not_not,Bool.not_eq_true',Bool.not_eq_false',Bool.or_eq_true,Bool.or_eq_false_iff,Bool.and_eq_true,decide_eq_true_eq,decide_eq_false_iff_not,inI,big] at *) <;> first | (exact rfl) | omega | (exact ⟨Nat.zero_le _,fun j hj=>absurd hj (Nat.not_lt_zero j)⟩) | (simp_all; done) | (simp_all; omega)) | skip)
abbrev q11 (t:Twn) (l:List Int) (Pq:Prop):Prop:=fitsT t/\l.length=(Hs.things (Twn.house t)).length->Pq
abbrev q12 (t:Twn) (l:List Int) (x0:Nat) (Pq:Prop):Prop:=(x0<=(Twn.rooms t).length /\ ∀ (j:Nat),j < x0->rmB t l j=true)->Pq
abbrev q13 (t:Twn) (l:List Int) (x0:Nat) (Pq:Prop):Prop:=q12 t l x0 (decide ((x0:Int) < (↑((Twn.rooms t).length):Int))=true->Pq)
abbrev q14 (l:List Int) (x2:Nat) (Pq:Prop):Prop:=x2<=l.length->Pq
abbrev q15 (l:List Int) (x2:Nat) (Pq:Prop):Prop:=q14 l x2 (decide ((x2:Int) < (↑(l.length):Int))=true->Pq)
abbrev q16 (t:Twn) (l:List Int) (x0:Nat) (x2:Nat) (Pq:Prop):Prop:=q15 l x2 ((bif decide (l.getD x2 0=(x0:Int)) then thereT t x2 else false)=true->Pq)
abbrev q17 (t:Twn) (l:List Int) (x0:Nat) (x2:Nat) (Pq:Prop):Prop:=q15 l x2 ((bif decide (l.getD x2 0=(x0:Int)) then thereT t x2 else false)=false->Pq)
abbrev q18 (l:List Int) (x2:Nat) (Pq:Prop):Prop:=q14 l x2 (decide ((x2:Int) < (↑(l.length):Int))=false->Pq)
abbrev q19 (t:Twn) (l:List Int) (x0:Nat) (x2:Nat) (Pq:Prop):Prop:=q18 l x2 (decide ((Twn.rooms t).getD x0 0 < (↑(cntB t l (x0:Int) x2):Int))=false->Pq)
theorem w36 (t:Twn) (l:List Int)
 (o0:q11 t l (0=(↑0:Int)))
 (o1:q11 t l (0<=(Twn.rooms t).length /\ ∀ (j:Nat),j < 0->rmB t l j=true))
 (o2:q11 t l (∀ (x0:Nat),q13 t l x0 (0=(↑(cntB t l (x0:Int) 0):Int))))
 (o3:q11 t l (∀ (x0:Nat),q13 t l x0 (0=(↑0:Int))))
 (o4:q11 t l (∀ (x0:Nat),q13 t l x0 (0<=l.length)))
 (o5:q11 t l (∀ (x0:Nat),q13 t l x0 (∀ (x2:Nat),q15 l x2 (0<=(x2:Int)))))
 (o6:q11 t l (∀ (x0:Nat),q13 t l x0 (∀ (x2:Nat),q15 l x2 ((x2:Int) < (↑(l.length):Int)))))
 (o7:q11 t l (∀ (x0:Nat),q13 t l x0 (∀ (x2:Nat),q15 l x2 (decide (l.getD x2 0=(x0:Int))=true->0<=(x2:Int)))))
 (o8:q11 t l (∀ (x0:Nat),q13 t l x0 (∀ (x2:Nat),q15 l x2 (decide (l.getD x2 0=(x0:Int))=true->(x2:Int) < (↑((Hs.things (Twn.house t)).length):Int)))))
 (o9:q11 t l (∀ (x0:Nat),q13 t l x0 (∀ (x2:Nat),q16 t l x0 x2 (inI ((↑(cntB t l (x0:Int) x2):Int) + 1)))))
 (o10:q11 t l (∀ (x0:Nat),q13 t l x0 (∀ (x2:Nat),q16 t l x0 x2 (inI ((x2:Int) + 1)))))
 (o11:q11 t l (∀ (x0:Nat),q13 t l x0 (∀ (x2:Nat),q16 t l x0 x2 ((↑(cntB t l (x0:Int) x2):Int) + 1=(↑(cntB t l (x0:Int) (x2 + 1)):Int)))))
 (o12:q11 t l (∀ (x0:Nat),q13 t l x0 (∀ (x2:Nat),q16 t l x0 x2 ((x2:Int) + 1=(↑(x2 + 1):Int)))))
 (o13:q11 t l (∀ (x0:Nat),q13 t l x0 (∀ (x2:Nat),q16 t l x0 x2 (x2 + 1<=l.length))))
 (o14:q11 t l (∀ (x0:Nat),q13 t l x0 (∀ (x2:Nat),q16 t l x0 x2 (l.length - (x2 + 1) < l.length - x2))))
 (o15:q11 t l (∀ (x0:Nat),q13 t l x0 (∀ (x2:Nat),q17 t l x0 x2 (inI ((x2:Int) + 1)))))
 (o16:q11 t l (∀ (x0:Nat),q13 t l x0 (∀ (x2:Nat),q17 t l x0 x2 ((↑(cntB t l (x0:Int) x2):Int)=(↑(cntB t l (x0:Int) (x2 + 1)):Int)))))
 (o17:q11 t l (∀ (x0:Nat),q13 t l x0 (∀ (x2:Nat),q17 t l x0 x2 ((x2:Int) + 1=(↑(x2 + 1):Int)))))
 (o18:q11 t l (∀ (x0:Nat),q13 t l x0 (∀ (x2:Nat),q17 t l x0 x2 (x2 + 1<=l.length))))
 (o19:q11 t l (∀ (x0:Nat),q13 t l x0 (∀ (x2:Nat),q17 t l x0 x2 (l.length - (x2 + 1) < l.length - x2))))
 (o20:q11 t l (∀ (x0:Nat),q13 t l x0 (∀ (x2:Nat),q18 l x2 (0<=(x0:Int)))))
 (o21:q11 t l (∀ (x0:Nat),q13 t l x0 (∀ (x2:Nat),q18 l x2 ((x0:Int) < (↑((Twn.rooms t).length):Int)))))
 (o22:q11 t l (∀ (x0:Nat),q13 t l x0 (∀ (x2:Nat),q18 l x2 (decide ((Twn.rooms t).getD x0 0 < (↑(cntB t l (x0:Int) x2):Int))=true->false=roomyT t l))))
 (o23:q11 t l (∀ (x0:Nat),q13 t l x0 (∀ (x2:Nat),q19 t l x0 x2 (inI ((x0:Int) + 1)))))
 (o24:q11 t l (∀ (x0:Nat),q13 t l x0 (∀ (x2:Nat),q19 t l x0 x2 ((x0:Int) + 1=(↑(x0 + 1):Int)))))
 (o25:q11 t l (∀ (x0:Nat),q13 t l x0 (∀ (x2:Nat),q19 t l x0 x2 (x0 + 1<=(Twn.rooms t).length /\ ∀ (j:Nat),j < x0 + 1->rmB t l j=true))))
 (o26:q11 t l (∀ (x0:Nat),q13 t l x0 (∀ (x2:Nat),q19 t l x0 x2 ((Twn.rooms t).length - (x0 + 1) < (Twn.rooms t).length - x0))))
 (o27:q11 t l (∀ (x0:Nat),q12 t l x0 (decide ((x0:Int) < (↑((Twn.rooms t).length):Int))=false->true=roomyT t l))) :
  Triple Try.prog 36 (s36 t l):=by
 refine triple_of Try.func36 rfl Try.call36 T0_ok _ rfl rfl rfl rfl (Nat.le_of_ble_eq_true (by kernel_rfl)) (fun _ _ _ _ h=>h) ?_
 intro hpre C hC _ hE
 obtain ⟨P,w0,E0,av,hA,ro,df⟩:=C
 obtain ⟨rfl,rfl,rfl⟩:=hC
 refine swp_seq ?_
 refine zR [1,2] [0] (Ak 2 tv) ?_
 refine swp_seq ?_
 refine swp_seq ?_
 refine zR [1,2,5] [0] (Ak 1 tv) ?_
 refine swp_block ?_
 refine zL (Hint.ann (h36a t l) [(1,aInts l),(2,AV.ptr 0 [])] [(0,OB.cells 28 (cTwn t))] 10024) (zE hE [] [(0,.same 0)] [1] [0] (An (An (An (zr (aInts l)) (zr true)) (An (An (zr (some (Src.same 0))) (zr nilP)) (An (An (ci (o0 hpre)) (zr nilN)) tv))) (An (An (An (zr (OB.cells 28 (cTwn t))) (zr true)) tv) (An (zr true) (zr true))))) (o1 hpre) (fun (x0:Nat) hx0 => ?_)
 refine swp_seq ?_
 refine swp_seq ?_
 refine zR [1,2,5,12] [0] (Ak 5 tv) ?_
 refine zI (decide ((x0:Int) < (↑((Twn.rooms t).length):Int))) (fun y1 => ?_) (fun y1 => ?_)
 ·refine swp_skip ?_
  refine swp_seq ?_
  refine swp_block ?_
  refine swp_seq ?_
  refine zR [1,2,5,6] [0] (Ak 1 tv) ?_
  refine swp_seq ?_
  refine swp_seq ?_
  refine zR [1,2,5,6,7] [0] (Ak 1 tv) ?_
  refine swp_block ?_
  refine zL (Hint.ann (h36b t l x0) [(1,aInts l),(2,AV.ptr 0 []),(5,iv (x0:Int))] [(0,OB.cells 28 (cTwn t))] 20080) (zE hE [] [(0,.same 0)] [1,5] [0] (An (An (An (zr (aInts l)) (zr true)) (An (An (zr (some (Src.same 0))) (zr nilP)) (An (An (zr (iv (x0:Int))) (zr true)) (An (An (ci (o2 hpre x0 hx0 y1)) (zr nilN)) (An (An (ci (o3 hpre x0 hx0 y1)) (zr nilN)) tv))))) (An (An (An (zr (OB.cells 28 (cTwn t))) (zr true)) tv) (An (zr true) (zr true))))) (o4 hpre x0 hx0 y1) (fun (x2:Nat) hx2 => ?_)
  refine swp_seq ?_
  refine swp_seq ?_
  refine zR [1,2,5,6,7,18] [0] (Ak 4 tv) ?_
  refine zI (decide ((x2:Int) < (↑(l.length):Int))) (fun y3 => ?_) (fun y3 => ?_)
  ·refine swp_skip ?_
   refine swp_seq ?_
   refine swp_block ?_
   refine swp_seq ?_
   refine zC ([(9,CallSpec.eq (s14 t (x2:Int)) [true,true])]) [1,2,5,6,7,31] [0] (Ak 2 (An (An (o5 hpre x0 hx0 y1 x2 hx2 y3) (o6 hpre x0 hx0 y1 x2 hx2 y3)) (Ak 4 (An (fun (y4:decide (l.getD x2 0=(x0:Int))=true)=>(An (Ak 1 tv) tv)) (An (fun (y5:decide (l.getD x2 0=(x0:Int))=true)=>(An (Ak 1 tv) tv)) (An (fun (y6:decide (l.getD x2 0=(x0:Int))=true)=>(An (Ak 1 (An (fun (y7:decide (l.getD x2 0=(x0:Int))=true)=>y6) (An (fun (y8:decide (l.getD x2 0=(x0:Int))=true)=>y6) tv))) (An (An (zr (AV.agg (cTwn t))) (An (zr (iv (x2:Int))) tv)) (An (t14 (t) ((x2:Int))) (An (An (o7 hpre x0 hx0 y1 x2 hx2 y3 y6) (o8 hpre x0 hx0 y1 x2 hx2 y3 y6)) (Ak 1 (fun (i9:Env)=>tv))))))) (An (An (fun (y10:decide (l.getD x2 0=(x0:Int))=true)=>y10) (fun (y11:decide (l.getD x2 0=(x0:Int))=false)=>tv)) tv))))))) ?_
   refine zI (bif decide (l.getD x2 0=(x0:Int)) then thereT t x2 else false) (fun y12 => ?_) (fun y12 => ?_)
   ·refine zR [1,2,5,6,7] [0] (Ak 1 (An (o9 hpre x0 hx0 y1 x2 hx2 y3 y12) (Ak 1 tv))) ?_
    refine zR [1,2,5,6,7] [0] (Ak 1 (An (o10 hpre x0 hx0 y1 x2 hx2 y3 y12) (Ak 1 tv))) ?_
    exact zn (zE hE [] [(0,.same 0)] [1,5] [0] (An (An (An (zr (aInts l)) (zr true)) (An (An (zr (some (Src.same 0))) (zr nilP)) (An (An (zr (iv (x0:Int))) (zr true)) (An (An (ci (o11 hpre x0 hx0 y1 x2 hx2 y3 y12)) (zr nilN)) (An (An (ci (o12 hpre x0 hx0 y1 x2 hx2 y3 y12)) (zr nilN)) tv))))) (An (An (An (zr (OB.cells 28 (cTwn t))) (zr true)) tv) (An (zr true) (zr true))))) (o13 hpre x0 hx0 y1 x2 hx2 y3 y12) (o14 hpre x0 hx0 y1 x2 hx2 y3 y12)
   ·refine swp_skip ?_
    refine zR [1,2,5,6,7] [0] (Ak 1 (An (o15 hpre x0 hx0 y1 x2 hx2 y3 y12) (Ak 1 tv))) ?_
    exact zn (zE hE [] [(0,.same 0)] [1,5] [0] (An (An (An (zr (aInts l)) (zr true)) (An (An (zr (some (Src.same 0))) (zr nilP)) (An (An (zr (iv (x0:Int))) (zr true)) (An (An (ci (o16 hpre x0 hx0 y1 x2 hx2 y3 y12)) (zr nilN)) (An (An (ci (o17 hpre x0 hx0 y1 x2 hx2 y3 y12)) (zr nilN)) tv))))) (An (An (An (zr (OB.cells 28 (cTwn t))) (zr true)) tv) (An (zr true) (zr true))))) (o18 hpre x0 hx0 y1 x2 hx2 y3 y12) (o19 hpre x0 hx0 y1 x2 hx2 y3 y12)
  ·refine swp_exit ?_
   refine swp_seq ?_
   refine zR [1,2,5,40] [0] (Ak 4 (An (An (o20 hpre x0 hx0 y1 x2 hx2 y3) (o21 hpre x0 hx0 y1 x2 hx2 y3)) (Ak 2 tv))) ?_
   refine zI (decide ((Twn.rooms t).getD x0 0 < (↑(cntB t l (x0:Int) x2):Int))) (fun y13 => ?_) (fun y13 => ?_)
   ·refine swp_seq ?_
    refine zR [4] [] (Ak 1 tv) ?_
    refine swp_ret ?_
    exact zT [] (An (Ak 1 tv) (An (An (cb (o22 hpre x0 hx0 y1 x2 hx2 y3 y13)) (zr nilN)) (An (zr true) (An (zr true) (zr true)))))
   ·refine swp_skip ?_
    refine zR [1,2,5] [0] (Ak 1 (An (o23 hpre x0 hx0 y1 x2 hx2 y3 y13) (Ak 1 tv))) ?_
    exact zn (zE hE [] [(0,.same 0)] [1] [0] (An (An (An (zr (aInts l)) (zr true)) (An (An (zr (some (Src.same 0))) (zr nilP)) (An (An (ci (o24 hpre x0 hx0 y1 x2 hx2 y3 y13)) (zr nilN)) tv))) (An (An (An (zr (OB.cells 28 (cTwn t))) (zr true)) tv) (An (zr true) (zr true))))) (o25 hpre x0 hx0 y1 x2 hx2 y3 y13) (o26 hpre x0 hx0 y1 x2 hx2 y3 y13)
 ·refine swp_exit ?_
  refine swp_seq ?_
  refine zR [4] [] (Ak 1 tv) ?_
  refine swp_ret ?_
  exact zT [] (An (Ak 1 tv) (An (An (cb (o27 hpre x0 hx0 y1)) (zr nilN)) (An (zr true) (An (zr true) (zr true)))))
theorem all_idx' {n:Nat} {p:Nat->Bool} (h:∀ j,j < n->p j=true):(List.range n).all p=true:=by
 rw [List.all_eq_true]; intro j hj; exact h j (List.mem_range.1 hj)
theorem not_all' {n i:Nat} {p:Nat->Bool} (hi:i < n) (h:p i=false):(List.range n).all p=false:=by
 rw [List.all_eq_false]; exact ⟨i,List.mem_range.2 hi,by rw [h]; decide⟩
theorem cntB_le (t:Twn) (l:List Int) (b:Int):∀ n,cntB t l b n<=n:=by
 intro n
 induction n with
 | zero=>exact Nat.le_refl _
 | succ n ih=>rw [cntB]; split <;> omega
theorem t36 (t:Twn) (l:List Int):Triple Try.prog 36 (s36 t l):=by
 apply w36
 all_goals (try delta q11 q12 q13 q14 q15 q16 q17 q18 q19)
 all_goals (first | ((repeat intro _) <;> (try simp only [Bool.cond_true_left,Bool.cond_false_right,Bool.not_not,Bool.not_eq_true',Bool.not_eq_false',Bool.or_eq_true,Bool.or_eq_false_iff,Bool.and_eq_true,decide_eq_true_eq,decide_eq_false_iff_not,inI,big] at *) <;> first | (exact rfl) | omega | (exact ⟨Nat.zero_le _,fun j hj=>absurd hj (Nat.not_lt_zero j)⟩) | (simp_all; done) | (simp_all; omega)) | skip)
 all_goals (intro hp x hx hl; simp only [decide_eq_true_eq,decide_eq_false_iff_not] at hl; obtain ⟨⟨⟨f1,f2⟩,f3,f4,f5⟩,f6⟩:=hp)
 case o27=>exact (all_idx' (fun j hj=>hx.2 j (by omega))).symm
 all_goals (intro y hy hyl hh; simp only [decide_eq_true_eq,decide_eq_false_iff_not] at hyl; have hc:=cntB_le t l (x:Int) y)
 case o9 | o10 | o15 | o23=>constructor <;> omega
 case o11 =>
  have h2:inB t l (x:Int) y=true:=by rw [Bool.cond_false_right] at hh; exact hh
  rw [cntB,if_pos h2]; rfl
 case o16 =>
  have h2:inB t l (x:Int) y=false:=by rw [Bool.cond_false_right] at hh; exact hh
  rw [cntB,h2]; rfl
 case o22 =>
  have e:y=l.length:=by omega
  subst e
  exact (not_all' (n:=t.rooms.length) (i:=x) (by omega) (by unfold rmB; rw [Bool.not_eq_false']; exact hh)).symm
 case o25 =>
  have e:y=l.length:=by omega
  subst e
  exact ⟨by omega,lt_succ_cases hx.2 (by unfold rmB; rw [Bool.not_eq_true']; exact hh)⟩
abbrev q1a (t:Twn) (Pq:Prop):Prop:=fitsT t->Pq
abbrev q1b (t:Twn) (Pq:Prop):Prop:=q1a t ((bif bif bif bif !decide (check7 (Twn.house t)=0) then true else !within (↑((Twn.rooms t).length):Int) 1 3 then true else !decide ((↑((Twn.places t).length):Int)=(↑((Hs.things (Twn.house t)).length):Int)) then true else !decide ((↑((Twn.carry t).length):Int)=(↑((Hs.things (Twn.house t)).length):Int)) then true else !within (Twn.minute t) 0 99)=false->Pq)
abbrev q1c (t:Twn) (x58:Nat) (Pq:Prop):Prop:=(x58<=(Twn.places t).length /\ ∀ (j:Nat),j < x58->okPl t j=true)->Pq
abbrev q1d (t:Twn) (x58:Nat) (Pq:Prop):Prop:=q1c t x58 (decide ((x58:Int) < (↑((Twn.places t).length):Int))=true->Pq)
abbrev q1e (t:Twn) (x58:Nat) (Pq:Prop):Prop:=q1d t x58 ((bif !isBld t ((Twn.places t).getD x58 0) then true else !within ((Twn.carry t).getD x58 0) 0 99)=false->Pq)
abbrev q1f (t:Twn) (x58:Nat) (Pq:Prop):Prop:=q1c t x58 (decide ((x58:Int) < (↑((Twn.places t).length):Int))=false->Pq)
abbrev q1g (t:Twn) (x78:Nat) (Pq:Prop):Prop:=(x78<=(Twn.rooms t).length /\ ∀ (j:Nat),j < x78->okRm t j=true)->Pq
abbrev q1h (t:Twn) (x78:Nat) (Pq:Prop):Prop:=q1g t x78 (decide ((x78:Int) < (↑((Twn.rooms t).length):Int))=true->Pq)
abbrev q1i (t:Twn) (x78:Nat) (Pq:Prop):Prop:=q1h t x78 ((!within ((Twn.rooms t).getD x78 0) 0 9)=false->Pq)
abbrev q1j (t:Twn) (x78:Nat) (Pq:Prop):Prop:=q1g t x78 (decide ((x78:Int) < (↑((Twn.rooms t).length):Int))=false->Pq)
theorem w6 (t:Twn)
 (o0:q1a t (fitsH (Twn.house t)))
 (o1:q1a t ((!decide (check7 (Twn.house t)=0))=false->(!!decide (check7 (Twn.house t)=0))=true))
 (o2:q1a t ((bif !decide (check7 (Twn.house t)=0) then true else !within (↑((Twn.rooms t).length):Int) 1 3)=false->(!bif !decide (check7 (Twn.house t)=0) then true else !within (↑((Twn.rooms t).length):Int) 1 3)=true))
 (o3:q1a t ((bif bif !decide (check7 (Twn.house t)=0) then true else !within (↑((Twn.rooms t).length):Int) 1 3 then true else !decide ((↑((Twn.places t).length):Int)=(↑((Hs.things (Twn.house t)).length):Int)))=false->(!bif bif !decide (check7 (Twn.house t)=0) then true else !within (↑((Twn.rooms t).length):Int) 1 3 then true else !decide ((↑((Twn.places t).length):Int)=(↑((Hs.things (Twn.house t)).length):Int)))=true))
 (o4:q1a t ((bif bif bif !decide (check7 (Twn.house t)=0) then true else !within (↑((Twn.rooms t).length):Int) 1 3 then true else !decide ((↑((Twn.places t).length):Int)=(↑((Hs.things (Twn.house t)).length):Int)) then true else !decide ((↑((Twn.carry t).length):Int)=(↑((Hs.things (Twn.house t)).length):Int)))=false->(!bif bif bif !decide (check7 (Twn.house t)=0) then true else !within (↑((Twn.rooms t).length):Int) 1 3 then true else !decide ((↑((Twn.places t).length):Int)=(↑((Hs.things (Twn.house t)).length):Int)) then true else !decide ((↑((Twn.carry t).length):Int)=(↑((Hs.things (Twn.house t)).length):Int)))=true))
 (o5:q1a t ((bif bif bif bif !decide (check7 (Twn.house t)=0) then true else !within (↑((Twn.rooms t).length):Int) 1 3 then true else !decide ((↑((Twn.places t).length):Int)=(↑((Hs.things (Twn.house t)).length):Int)) then true else !decide ((↑((Twn.carry t).length):Int)=(↑((Hs.things (Twn.house t)).length):Int)) then true else !within (Twn.minute t) 0 99)=true->100=check10 t))
 (o6:q1b t (0=(↑0:Int)))
 (o7:q1b t (0<=(Twn.places t).length /\ ∀ (j:Nat),j < 0->okPl t j=true))
 (o8:q1b t (∀ (x58:Nat),q1d t x58 (0<=(x58:Int))))
 (o9:q1b t (∀ (x58:Nat),q1d t x58 ((x58:Int) < (↑((Twn.places t).length):Int))))
 (o10:q1b t (∀ (x58:Nat),q1d t x58 ((!!isBld t ((Twn.places t).getD x58 0))=true->0<=(x58:Int))))
 (o11:q1b t (∀ (x58:Nat),q1d t x58 ((!!isBld t ((Twn.places t).getD x58 0))=true->(x58:Int) < (↑((Twn.carry t).length):Int))))
 (o12:q1b t (∀ (x58:Nat),q1d t x58 ((!isBld t ((Twn.places t).getD x58 0))=false->(!!isBld t ((Twn.places t).getD x58 0))=true)))
 (o13:q1b t (∀ (x58:Nat),q1d t x58 ((bif !isBld t ((Twn.places t).getD x58 0) then true else !within ((Twn.carry t).getD x58 0) 0 99)=true->100=check10 t)))
 (o14:q1b t (∀ (x58:Nat),q1e t x58 (inI ((x58:Int) + 1))))
 (o15:q1b t (∀ (x58:Nat),q1e t x58 ((x58:Int) + 1=(↑(x58 + 1):Int))))
 (o16:q1b t (∀ (x58:Nat),q1e t x58 (x58 + 1<=(Twn.places t).length /\ ∀ (j:Nat),j < x58 + 1->okPl t j=true)))
 (o17:q1b t (∀ (x58:Nat),q1e t x58 ((Twn.places t).length - (x58 + 1) < (Twn.places t).length - x58)))
 (o18:q1b t (∀ (x58:Nat),q1f t x58 (0=(↑0:Int))))
 (o19:q1b t (∀ (x58:Nat),q1f t x58 (0<=(Twn.rooms t).length /\ ∀ (j:Nat),j < 0->okRm t j=true)))
 (o20:q1b t (∀ (x58:Nat),q1f t x58 (∀ (x78:Nat),q1h t x78 (0<=(x78:Int)))))
 (o21:q1b t (∀ (x58:Nat),q1f t x58 (∀ (x78:Nat),q1h t x78 ((x78:Int) < (↑((Twn.rooms t).length):Int)))))
 (o22:q1b t (∀ (x58:Nat),q1f t x58 (∀ (x78:Nat),q1h t x78 ((!within ((Twn.rooms t).getD x78 0) 0 9)=true->100=check10 t))))
 (o23:q1b t (∀ (x58:Nat),q1f t x58 (∀ (x78:Nat),q1i t x78 (inI ((x78:Int) + 1)))))
 (o24:q1b t (∀ (x58:Nat),q1f t x58 (∀ (x78:Nat),q1i t x78 ((x78:Int) + 1=(↑(x78 + 1):Int)))))
 (o25:q1b t (∀ (x58:Nat),q1f t x58 (∀ (x78:Nat),q1i t x78 (x78 + 1<=(Twn.rooms t).length /\ ∀ (j:Nat),j < x78 + 1->okRm t j=true))))
 (o26:q1b t (∀ (x58:Nat),q1f t x58 (∀ (x78:Nat),q1i t x78 ((Twn.rooms t).length - (x78 + 1) < (Twn.rooms t).length - x78))))
 (o27:q1b t (∀ (x58:Nat),q1f t x58 (∀ (x78:Nat),q1j t x78 ((Twn.places t).length=(Hs.things (Twn.house t)).length))))
 (o28:q1b t (∀ (x58:Nat),q1f t x58 (∀ (x78:Nat),q1j t x78 ((!roomyT t (Twn.places t))=true->100=check10 t))))
 (o29:q1b t (∀ (x58:Nat),q1f t x58 (∀ (x78:Nat),q1j t x78 ((!roomyT t (Twn.places t))=false->0=check10 t)))) :
  Triple Try.prog 6 (s6 t):=by
 refine triple_of Try.func6 rfl Try.call6 T0_ok _ rfl rfl rfl rfl (Nat.le_of_ble_eq_true (by kernel_rfl)) (fun _ _ _ _ h=>h) ?_
 intro hpre C hC _ hE
 obtain ⟨P,w0,E0,av,hA,ro,df⟩:=C
 obtain ⟨rfl,rfl,rfl⟩:=hC
 refine swp_seq ?_
 refine zR [1] [0] (Ak 2 tv) ?_
 refine swp_seq ?_
 refine swp_seq ?_
 refine zC ([(2,CallSpec.eq (s33 (Twn.house t)) [true]),(8,CallSpec.eq (s34 (↑((Twn.rooms t).length):Int) 1 3) [true,true,true]),(34,CallSpec.eq (s34 (Twn.minute t) 0 99) [true,true,true])]) [1,41] [0] (Ak 2 (An (An (An (zr (AV.agg (cHs (Twn.house t)))) tv) (An (t33 (Twn.house t)) (An (o0 hpre) (Ak 1 (fun (i0:Env)=>tv))))) (Ak 2 (An (fun (y1:(!!decide (check7 (Twn.house t)=0))=true)=>(An (Ak 1 tv) tv)) (An (fun (y2:(!!decide (check7 (Twn.house t)=0))=true)=>(An (An (fun (y3:(!!decide (check7 (Twn.house t)=0))=true)=>y2) tv) tv)) (An (fun (y4:(!!decide (check7 (Twn.house t)=0))=true)=>(An (An (fun (y5:(!!decide (check7 (Twn.house t)=0))=true)=>y4) tv) tv)) (An (fun (y6:(!!decide (check7 (Twn.house t)=0))=true)=>(An (Ak 1 (An (fun (y7:(!!decide (check7 (Twn.house t)=0))=true)=>y6) (Ak 2 tv))) (An (An (zr (iv (↑((Twn.rooms t).length):Int))) (An (zr (iv 1)) (An (zr (iv 3)) tv))) (An (t34 ((↑((Twn.rooms t).length):Int)) (1) (3)) (Ak 2 (fun (i8:Env)=>tv)))))) (An (fun (y9:(!!decide (check7 (Twn.house t)=0))=true)=>(An (An (fun (y10:(!!decide (check7 (Twn.house t)=0))=true)=>y9) tv) tv)) (An (An (fun (y11:(!decide (check7 (Twn.house t)=0))=true)=>tv) (fun (y12:(!decide (check7 (Twn.house t)=0))=false)=>(o1 hpre y12))) (Ak 1 (An (fun (y13:(!bif !decide (check7 (Twn.house t)=0) then true else !within (↑((Twn.rooms t).length):Int) 1 3)=true)=>(An (Ak 1 tv) tv)) (An (fun (y14:(!bif !decide (check7 (Twn.house t)=0) then true else !within (↑((Twn.rooms t).length):Int) 1 3)=true)=>(An (An (fun (y15:(!bif !decide (check7 (Twn.house t)=0) then true else !within (↑((Twn.rooms t).length):Int) 1 3)=true)=>y14) tv) tv)) (An (fun (y16:(!bif !decide (check7 (Twn.house t)=0) then true else !within (↑((Twn.rooms t).length):Int) 1 3)=true)=>(An (An (fun (y17:(!bif !decide (check7 (Twn.house t)=0) then true else !within (↑((Twn.rooms t).length):Int) 1 3)=true)=>y16) tv) tv)) (An (fun (y18:(!bif !decide (check7 (Twn.house t)=0) then true else !within (↑((Twn.rooms t).length):Int) 1 3)=true)=>(An (Ak 1 tv) tv)) (An (fun (y19:(!bif !decide (check7 (Twn.house t)=0) then true else !within (↑((Twn.rooms t).length):Int) 1 3)=true)=>(An (An (fun (y20:(!bif !decide (check7 (Twn.house t)=0) then true else !within (↑((Twn.rooms t).length):Int) 1 3)=true)=>y19) tv) tv)) (An (fun (y21:(!bif !decide (check7 (Twn.house t)=0) then true else !within (↑((Twn.rooms t).length):Int) 1 3)=true)=>(An (An (fun (y22:(!bif !decide (check7 (Twn.house t)=0) then true else !within (↑((Twn.rooms t).length):Int) 1 3)=true)=>y21) tv) tv)) (An (fun (y23:(!bif !decide (check7 (Twn.house t)=0) then true else !within (↑((Twn.rooms t).length):Int) 1 3)=true)=>(An (An (fun (y24:(!bif !decide (check7 (Twn.house t)=0) then true else !within (↑((Twn.rooms t).length):Int) 1 3)=true)=>y23) tv) tv)) (An (fun (y25:(!bif !decide (check7 (Twn.house t)=0) then true else !within (↑((Twn.rooms t).length):Int) 1 3)=true)=>(An (An (fun (y26:(!bif !decide (check7 (Twn.house t)=0) then true else !within (↑((Twn.rooms t).length):Int) 1 3)=true)=>y25) (An (fun (y27:(!bif !decide (check7 (Twn.house t)=0) then true else !within (↑((Twn.rooms t).length):Int) 1 3)=true)=>y25) tv)) tv)) (An (An (fun (y28:(bif !decide (check7 (Twn.house t)=0) then true else !within (↑((Twn.rooms t).length):Int) 1 3)=true)=>tv) (fun (y29:(bif !decide (check7 (Twn.house t)=0) then true else !within (↑((Twn.rooms t).length):Int) 1 3)=false)=>(o2 hpre y29))) (Ak 1 (An (fun (y30:(!bif bif !decide (check7 (Twn.house t)=0) then true else !within (↑((Twn.rooms t).length):Int) 1 3 then true else !decide ((↑((Twn.places t).length):Int)=(↑((Hs.things (Twn.house t)).length):Int)))=true)=>(An (Ak 1 tv) tv)) (An (fun (y31:(!bif bif !decide (check7 (Twn.house t)=0) then true else !within (↑((Twn.rooms t).length):Int) 1 3 then true else !decide ((↑((Twn.places t).length):Int)=(↑((Hs.things (Twn.house t)).length):Int)))=true)=>(An (An (fun (y32:(!bif bif !decide (check7 (Twn.house t)=0) then true else !within (↑((Twn.rooms t).length):Int) 1 3 then true else !decide ((↑((Twn.places t).length):Int)=(↑((Hs.things (Twn.house t)).length):Int)))=true)=>y31) tv) tv)) (An (fun (y33:(!bif bif !decide (check7 (Twn.house t)=0) then true else !within (↑((Twn.rooms t).length):Int) 1 3 then true else !decide ((↑((Twn.places t).length):Int)=(↑((Hs.things (Twn.house t)).length):Int)))=true)=>(An (An (fun (y34:(!bif bif !decide (check7 (Twn.house t)=0) then true else !within (↑((Twn.rooms t).length):Int) 1 3 then true else !decide ((↑((Twn.places t).length):Int)=(↑((Hs.things (Twn.house t)).length):Int)))=true)=>y33) tv) tv)) (An (fun (y35:(!bif bif !decide (check7 (Twn.house t)=0) then true else !within (↑((Twn.rooms t).length):Int) 1 3 then true else !decide ((↑((Twn.places t).length):Int)=(↑((Hs.things (Twn.house t)).length):Int)))=true)=>(An (Ak 1 tv) tv)) (An (fun (y36:(!bif bif !decide (check7 (Twn.house t)=0) then true else !within (↑((Twn.rooms t).length):Int) 1 3 then true else !decide ((↑((Twn.places t).length):Int)=(↑((Hs.things (Twn.house t)).length):Int)))=true)=>(An (An (fun (y37:(!bif bif !decide (check7 (Twn.house t)=0) then true else !within (↑((Twn.rooms t).length):Int) 1 3 then true else !decide ((↑((Twn.places t).length):Int)=(↑((Hs.things (Twn.house t)).length):Int)))=true)=>y36) tv) tv)) (An (fun (y38:(!bif bif !decide (check7 (Twn.house t)=0) then true else !within (↑((Twn.rooms t).length):Int) 1 3 then true else !decide ((↑((Twn.places t).length):Int)=(↑((Hs.things (Twn.house t)).length):Int)))=true)=>(An (An (fun (y39:(!bif bif !decide (check7 (Twn.house t)=0) then true else !within (↑((Twn.rooms t).length):Int) 1 3 then true else !decide ((↑((Twn.places t).length):Int)=(↑((Hs.things (Twn.house t)).length):Int)))=true)=>y38) tv) tv)) (An (fun (y40:(!bif bif !decide (check7 (Twn.house t)=0) then true else !within (↑((Twn.rooms t).length):Int) 1 3 then true else !decide ((↑((Twn.places t).length):Int)=(↑((Hs.things (Twn.house t)).length):Int)))=true)=>(An (An (fun (y41:(!bif bif !decide (check7 (Twn.house t)=0) then true else !within (↑((Twn.rooms t).length):Int) 1 3 then true else !decide ((↑((Twn.places t).length):Int)=(↑((Hs.things (Twn.house t)).length):Int)))=true)=>y40) tv) tv)) (An (fun (y42:(!bif bif !decide (check7 (Twn.house t)=0) then true else !within (↑((Twn.rooms t).length):Int) 1 3 then true else !decide ((↑((Twn.places t).length):Int)=(↑((Hs.things (Twn.house t)).length):Int)))=true)=>(An (An (fun (y43:(!bif bif !decide (check7 (Twn.house t)=0) then true else !within (↑((Twn.rooms t).length):Int) 1 3 then true else !decide ((↑((Twn.places t).length):Int)=(↑((Hs.things (Twn.house t)).length):Int)))=true)=>y42) (An (fun (y44:(!bif bif !decide (check7 (Twn.house t)=0) then true else !within (↑((Twn.rooms t).length):Int) 1 3 then true else !decide ((↑((Twn.places t).length):Int)=(↑((Hs.things (Twn.house t)).length):Int)))=true)=>y42) tv)) tv)) (An (An (fun (y45:(bif bif !decide (check7 (Twn.house t)=0) then true else !within (↑((Twn.rooms t).length):Int) 1 3 then true else !decide ((↑((Twn.places t).length):Int)=(↑((Hs.things (Twn.house t)).length):Int)))=true)=>tv) (fun (y46:(bif bif !decide (check7 (Twn.house t)=0) then true else !within (↑((Twn.rooms t).length):Int) 1 3 then true else !decide ((↑((Twn.places t).length):Int)=(↑((Hs.things (Twn.house t)).length):Int)))=false)=>(o3 hpre y46))) (Ak 1 (An (fun (y47:(!bif bif bif !decide (check7 (Twn.house t)=0) then true else !within (↑((Twn.rooms t).length):Int) 1 3 then true else !decide ((↑((Twn.places t).length):Int)=(↑((Hs.things (Twn.house t)).length):Int)) then true else !decide ((↑((Twn.carry t).length):Int)=(↑((Hs.things (Twn.house t)).length):Int)))=true)=>(An (Ak 1 tv) tv)) (An (fun (y48:(!bif bif bif !decide (check7 (Twn.house t)=0) then true else !within (↑((Twn.rooms t).length):Int) 1 3 then true else !decide ((↑((Twn.places t).length):Int)=(↑((Hs.things (Twn.house t)).length):Int)) then true else !decide ((↑((Twn.carry t).length):Int)=(↑((Hs.things (Twn.house t)).length):Int)))=true)=>(An (An (fun (y49:(!bif bif bif !decide (check7 (Twn.house t)=0) then true else !within (↑((Twn.rooms t).length):Int) 1 3 then true else !decide ((↑((Twn.places t).length):Int)=(↑((Hs.things (Twn.house t)).length):Int)) then true else !decide ((↑((Twn.carry t).length):Int)=(↑((Hs.things (Twn.house t)).length):Int)))=true)=>y48) tv) tv)) (An (fun (y50:(!bif bif bif !decide (check7 (Twn.house t)=0) then true else !within (↑((Twn.rooms t).length):Int) 1 3 then true else !decide ((↑((Twn.places t).length):Int)=(↑((Hs.things (Twn.house t)).length):Int)) then true else !decide ((↑((Twn.carry t).length):Int)=(↑((Hs.things (Twn.house t)).length):Int)))=true)=>(An (Ak 1 (An (fun (y51:(!bif bif bif !decide (check7 (Twn.house t)=0) then true else !within (↑((Twn.rooms t).length):Int) 1 3 then true else !decide ((↑((Twn.places t).length):Int)=(↑((Hs.things (Twn.house t)).length):Int)) then true else !decide ((↑((Twn.carry t).length):Int)=(↑((Hs.things (Twn.house t)).length):Int)))=true)=>y50) (Ak 2 tv))) (An (An (zr (iv (Twn.minute t))) (An (zr (iv 0)) (An (zr (iv 99)) tv))) (An (t34 (Twn.minute t) (0) (99)) (Ak 2 (fun (i52:Env)=>tv)))))) (An (fun (y53:(!bif bif bif !decide (check7 (Twn.house t)=0) then true else !within (↑((Twn.rooms t).length):Int) 1 3 then true else !decide ((↑((Twn.places t).length):Int)=(↑((Hs.things (Twn.house t)).length):Int)) then true else !decide ((↑((Twn.carry t).length):Int)=(↑((Hs.things (Twn.house t)).length):Int)))=true)=>(An (An (fun (y54:(!bif bif bif !decide (check7 (Twn.house t)=0) then true else !within (↑((Twn.rooms t).length):Int) 1 3 then true else !decide ((↑((Twn.places t).length):Int)=(↑((Hs.things (Twn.house t)).length):Int)) then true else !decide ((↑((Twn.carry t).length):Int)=(↑((Hs.things (Twn.house t)).length):Int)))=true)=>y53) tv) tv)) (An (An (fun (y55:(bif bif bif !decide (check7 (Twn.house t)=0) then true else !within (↑((Twn.rooms t).length):Int) 1 3 then true else !decide ((↑((Twn.places t).length):Int)=(↑((Hs.things (Twn.house t)).length):Int)) then true else !decide ((↑((Twn.carry t).length):Int)=(↑((Hs.things (Twn.house t)).length):Int)))=true)=>tv) (fun (y56:(bif bif bif !decide (check7 (Twn.house t)=0) then true else !within (↑((Twn.rooms t).length):Int) 1 3 then true else !decide ((↑((Twn.places t).length):Int)=(↑((Hs.things (Twn.house t)).length):Int)) then true else !decide ((↑((Twn.carry t).length):Int)=(↑((Hs.things (Twn.house t)).length):Int)))=false)=>(o4 hpre y56))) tv))))))))))))))))))))))))))))))))))) ?_
 refine zI (bif bif bif bif !decide (check7 (Twn.house t)=0) then true else !within (↑((Twn.rooms t).length):Int) 1 3 then true else !decide ((↑((Twn.places t).length):Int)=(↑((Hs.things (Twn.house t)).length):Int)) then true else !decide ((↑((Twn.carry t).length):Int)=(↑((Hs.things (Twn.house t)).length):Int)) then true else !within (Twn.minute t) 0 99) (fun y57 => ?_) (fun y57 => ?_)
 ·refine swp_seq ?_
  refine zR [2] [] (Ak 1 tv) ?_
  refine swp_ret ?_
  exact zT [] (An (Ak 1 tv) (An (An (ci (o5 hpre y57)) (zr nilN)) (An (zr true) (An (zr true) (zr true)))))
 ·refine swp_skip ?_
  refine swp_seq ?_
  refine swp_seq ?_
  refine zR [1,3] [0] (Ak 1 tv) ?_
  refine swp_block ?_
  refine zL (Hint.ann (h6a t) [(1,AV.ptr 0 [])] [(0,OB.cells 28 (cTwn t))] 10320) (zE hE [] [(0,.same 0)] [] [0] (An (An (An (zr (some (Src.same 0))) (zr nilP)) (An (An (ci (o6 hpre y57)) (zr nilN)) tv)) (An (An (An (zr (OB.cells 28 (cTwn t))) (zr true)) tv) (An (zr true) (zr true))))) (o7 hpre y57) (fun (x58:Nat) hx58 => ?_)
  refine swp_seq ?_
  refine swp_seq ?_
  refine zR [1,3,46] [0] (Ak 5 tv) ?_
  refine zI (decide ((x58:Int) < (↑((Twn.places t).length):Int))) (fun y59 => ?_) (fun y59 => ?_)
  ·refine swp_skip ?_
   refine swp_seq ?_
   refine swp_block ?_
   refine swp_seq ?_
   refine zC ([(6,CallSpec.eq (s35 t ((Twn.places t).getD x58 0)) [true,true]),(14,CallSpec.eq (s34 ((Twn.carry t).getD x58 0) 0 99) [true,true,true])]) [1,3,65] [0] (Ak 4 (An (An (o8 hpre y57 x58 hx58 y59) (o9 hpre y57 x58 hx58 y59)) (Ak 1 (An (An (An (zr (AV.agg (cTwn t))) (An (zr (iv ((Twn.places t).getD x58 0))) tv)) (An (t35 (t) ((Twn.places t).getD x58 0)) (An hpre (Ak 1 (fun (i60:Env)=>tv))))) (Ak 2 (An (fun (y61:(!!isBld t ((Twn.places t).getD x58 0))=true)=>(An (Ak 1 tv) tv)) (An (fun (y62:(!!isBld t ((Twn.places t).getD x58 0))=true)=>(An (An (fun (y63:(!!isBld t ((Twn.places t).getD x58 0))=true)=>y62) tv) tv)) (An (fun (y64:(!!isBld t ((Twn.places t).getD x58 0))=true)=>(An (Ak 1 tv) tv)) (An (fun (y65:(!!isBld t ((Twn.places t).getD x58 0))=true)=>(An (An (fun (y66:(!!isBld t ((Twn.places t).getD x58 0))=true)=>y65) (An (fun (y67:(!!isBld t ((Twn.places t).getD x58 0))=true)=>y65) tv)) (An (o10 hpre y57 x58 hx58 y59 y65) (o11 hpre y57 x58 hx58 y59 y65)))) (An (fun (y68:(!!isBld t ((Twn.places t).getD x58 0))=true)=>(An (An (fun (y69:(!!isBld t ((Twn.places t).getD x58 0))=true)=>y68) tv) tv)) (An (fun (y70:(!!isBld t ((Twn.places t).getD x58 0))=true)=>(An (Ak 1 (An (fun (y71:(!!isBld t ((Twn.places t).getD x58 0))=true)=>y70) (Ak 2 tv))) (An (An (zr (iv ((Twn.carry t).getD x58 0))) (An (zr (iv 0)) (An (zr (iv 99)) tv))) (An (t34 ((Twn.carry t).getD x58 0) (0) (99)) (Ak 2 (fun (i72:Env)=>tv)))))) (An (fun (y73:(!!isBld t ((Twn.places t).getD x58 0))=true)=>(An (An (fun (y74:(!!isBld t ((Twn.places t).getD x58 0))=true)=>y73) tv) tv)) (An (An (fun (y75:(!isBld t ((Twn.places t).getD x58 0))=true)=>tv) (fun (y76:(!isBld t ((Twn.places t).getD x58 0))=false)=>(o12 hpre y57 x58 hx58 y59 y76))) tv))))))))))))) ?_
   refine zI (bif !isBld t ((Twn.places t).getD x58 0) then true else !within ((Twn.carry t).getD x58 0) 0 99) (fun y77 => ?_) (fun y77 => ?_)
   ·refine swp_seq ?_
    refine zR [2] [] (Ak 1 tv) ?_
    refine swp_ret ?_
    exact zT [] (An (Ak 1 tv) (An (An (ci (o13 hpre y57 x58 hx58 y59 y77)) (zr nilN)) (An (zr true) (An (zr true) (zr true)))))
   ·refine swp_skip ?_
    refine zR [1,3] [0] (Ak 1 (An (o14 hpre y57 x58 hx58 y59 y77) (Ak 1 tv))) ?_
    exact zn (zE hE [] [(0,.same 0)] [] [0] (An (An (An (zr (some (Src.same 0))) (zr nilP)) (An (An (ci (o15 hpre y57 x58 hx58 y59 y77)) (zr nilN)) tv)) (An (An (An (zr (OB.cells 28 (cTwn t))) (zr true)) tv) (An (zr true) (zr true))))) (o16 hpre y57 x58 hx58 y59 y77) (o17 hpre y57 x58 hx58 y59 y77)
  ·refine swp_exit ?_
   refine swp_seq ?_
   refine swp_seq ?_
   refine zR [1,4] [0] (Ak 1 tv) ?_
   refine swp_block ?_
   refine zL (Hint.ann (h6b t) [(1,AV.ptr 0 [])] [(0,OB.cells 28 (cTwn t))] 20368) (zE hE [] [(0,.same 0)] [] [0] (An (An (An (zr (some (Src.same 0))) (zr nilP)) (An (An (ci (o18 hpre y57 x58 hx58 y59)) (zr nilN)) tv)) (An (An (An (zr (OB.cells 28 (cTwn t))) (zr true)) tv) (An (zr true) (zr true))))) (o19 hpre y57 x58 hx58 y59) (fun (x78:Nat) hx78 => ?_)
   refine swp_seq ?_
   refine swp_seq ?_
   refine zR [1,4,70] [0] (Ak 5 tv) ?_
   refine zI (decide ((x78:Int) < (↑((Twn.rooms t).length):Int))) (fun y79 => ?_) (fun y79 => ?_)
   ·refine swp_skip ?_
    refine swp_seq ?_
    refine swp_block ?_
    refine swp_seq ?_
    refine zC ([(5,CallSpec.eq (s34 ((Twn.rooms t).getD x78 0) 0 9) [true,true,true])]) [1,4,79] [0] (Ak 3 (An (An (o20 hpre y57 x58 hx58 y59 x78 hx78 y79) (o21 hpre y57 x58 hx58 y59 x78 hx78 y79)) (Ak 1 (An (An (An (zr (iv ((Twn.rooms t).getD x78 0))) (An (zr (iv 0)) (An (zr (iv 9)) tv))) (An (t34 ((Twn.rooms t).getD x78 0) (0) (9)) (Ak 2 (fun (i80:Env)=>tv)))) (Ak 1 tv))))) ?_
    refine zI (!within ((Twn.rooms t).getD x78 0) 0 9) (fun y81 => ?_) (fun y81 => ?_)
    ·refine swp_seq ?_
     refine zR [2] [] (Ak 1 tv) ?_
     refine swp_ret ?_
     exact zT [] (An (Ak 1 tv) (An (An (ci (o22 hpre y57 x58 hx58 y59 x78 hx78 y79 y81)) (zr nilN)) (An (zr true) (An (zr true) (zr true)))))
    ·refine swp_skip ?_
     refine zR [1,4] [0] (Ak 1 (An (o23 hpre y57 x58 hx58 y59 x78 hx78 y79 y81) (Ak 1 tv))) ?_
     exact zn (zE hE [] [(0,.same 0)] [] [0] (An (An (An (zr (some (Src.same 0))) (zr nilP)) (An (An (ci (o24 hpre y57 x58 hx58 y59 x78 hx78 y79 y81)) (zr nilN)) tv)) (An (An (An (zr (OB.cells 28 (cTwn t))) (zr true)) tv) (An (zr true) (zr true))))) (o25 hpre y57 x58 hx58 y59 x78 hx78 y79 y81) (o26 hpre y57 x58 hx58 y59 x78 hx78 y79 y81)
   ·refine swp_exit ?_
    refine swp_seq ?_
    refine swp_seq ?_
    refine zC ([(3,CallSpec.eq (s36 t (Twn.places t)) [true,true])]) [84] [] (Ak 3 (An (An (An (zr (AV.agg (cTwn t))) (An (zr (aInts (Twn.places t))) tv)) (An (t36 (t) (Twn.places t)) (An (An hpre (o27 hpre y57 x58 hx58 y59 x78 hx78 y79)) (Ak 1 (fun (i82:Env)=>tv))))) (Ak 1 tv))) ?_
    refine zI (!roomyT t (Twn.places t)) (fun y83 => ?_) (fun y83 => ?_)
    ·refine swp_seq ?_
     refine zR [2] [] (Ak 1 tv) ?_
     refine swp_ret ?_
     exact zT [] (An (Ak 1 tv) (An (An (ci (o28 hpre y57 x58 hx58 y59 x78 hx78 y79 y83)) (zr nilN)) (An (zr true) (An (zr true) (zr true)))))
    ·refine swp_skip ?_
     refine swp_seq ?_
     refine zR [2] [] (Ak 1 tv) ?_
     refine swp_ret ?_
     exact zT [] (An (Ak 1 tv) (An (An (ci (o29 hpre y57 x58 hx58 y59 x78 hx78 y79 y83)) (zr nilN)) (An (zr true) (An (zr true) (zr true)))))
theorem hd5 (a b c d e:Bool):(bif bif bif bif !a then true else !b then true else !c then true else !d then true else !e) = !(a && b && c && d && e):=by cases a <;> cases b <;> cases c <;> cases d <;> cases e <;> rfl
theorem t6 (t:Twn):Triple Try.prog 6 (s6 t):=by
 apply w6
 all_goals (try delta q1a q1b q1c q1d q1e q1f q1g q1h q1i q1j)
 case o0=>intro hp; exact hp.1
 case o5 =>
  intro hp hh
  have:okHead10 t=false:=by rw [hd5,Bool.not_eq_true'] at hh; exact hh
  rw [check10,if_neg]
  unfold okTwn; rw [this]; simp
 all_goals (first | ((repeat intro _) <;> (try simp only [Bool.cond_true_left,Bool.cond_false_right,Bool.not_not,Bool.not_eq_true',Bool.not_eq_false',Bool.or_eq_true,Bool.or_eq_false_iff,Bool.and_eq_true,decide_eq_true_eq,decide_eq_false_iff_not,inI,big] at *) <;> first | (exact rfl) | omega | (exact ⟨Nat.zero_le _,fun j hj=>absurd hj (Nat.not_lt_zero j)⟩) | (simp_all; done) | (simp_all; omega)) | skip)
 all_goals (intro hp hh; rw [hd5,Bool.not_eq_false'] at hh; have hh':=hh; simp only [Bool.and_eq_true,decide_eq_true_eq] at hh'; obtain ⟨⟨⟨⟨_,_⟩,q3⟩,q4⟩,_⟩:=hh'; obtain ⟨⟨f1,f2⟩,f3,f4,f5⟩:=hp; intro x hx hl; simp only [decide_eq_true_eq,decide_eq_false_iff_not] at hl)
 case o13 =>
  intro hh2
  have:okPl t x=false:=by unfold okPl; revert hh2; cases isBld t (t.places.getD x 0) <;> cases within (t.carry.getD x 0) 0 99 <;> simp
  have h2:=not_all' (n:=t.places.length) (i:=x) (by omega) this
  rw [check10,if_neg]; unfold okTwn; rw [h2]; simp
 case o14=>intro _; constructor <;> omega
 case o16 =>
  intro hh2
  have:okPl t x=true:=by unfold okPl; revert hh2; cases isBld t (t.places.getD x 0) <;> cases within (t.carry.getD x 0) 0 99 <;> simp
  exact ⟨by omega,lt_succ_cases hx.2 this⟩
 all_goals (intro y hy hyl; simp only [decide_eq_true_eq,decide_eq_false_iff_not] at hyl)
 case o22 =>
  intro hh2
  have:okRm t y=false:=by unfold okRm; rw [Bool.not_eq_true'] at hh2; exact hh2
  have h2:=not_all' (n:=t.rooms.length) (i:=y) (by omega) this
  rw [check10,if_neg]; unfold okTwn; rw [h2]; simp
 case o23=>intro _; constructor <;> omega
 case o25 =>
  intro hh2
  have:okRm t y=true:=by unfold okRm; rw [Bool.not_eq_false'] at hh2; exact hh2
  exact ⟨by omega,lt_succ_cases hy.2 this⟩
 case o28=>intro hh2; rw [Bool.not_eq_true'] at hh2; rw [check10,if_neg]; unfold okTwn; rw [hh2]; simp
 case o29 =>
  intro hh2
  rw [Bool.not_eq_false'] at hh2
  have e1:(List.range t.places.length).all (okPl t)=true:=all_idx' (fun j hj=>hx.2 j (by omega))
  have e2:(List.range t.rooms.length).all (okRm t)=true:=all_idx' (fun j hj=>hy.2 j (by omega))
  have e3:okHead10 t=true:=hh
  rw [check10,if_pos]; unfold okTwn; rw [e1,e2,e3,hh2]; rfl
theorem w32 (t:Twn)
  (o0:fitsT t->fitsH (Twn.house t))
  (o1:fitsT t->far7 (Twn.house t)=false->(!far7 (Twn.house t))=true)
  (o2:fitsT t->(bif far7 (Twn.house t) then true else decide (40 < (↑((Twn.places t).length):Int)))=false->(!bif far7 (Twn.house t) then true else decide (40 < (↑((Twn.places t).length):Int)))=true)
  (o3:fitsT t->(bif bif far7 (Twn.house t) then true else decide (40 < (↑((Twn.places t).length):Int)) then true else decide (40 < (↑((Twn.carry t).length):Int)))=false->(!bif bif far7 (Twn.house t) then true else decide (40 < (↑((Twn.places t).length):Int)) then true else decide (40 < (↑((Twn.carry t).length):Int)))=true)
  (o4:fitsT t->(bif bif bif far7 (Twn.house t) then true else decide (40 < (↑((Twn.places t).length):Int)) then true else decide (40 < (↑((Twn.carry t).length):Int)) then true else decide (40 < (↑((Twn.rooms t).length):Int)))=huge10 t) :
  Triple Try.prog 32 (s32 t):=by
 refine triple_of Try.func32 rfl Try.call32 T0_ok _ rfl rfl rfl rfl (Nat.le_of_ble_eq_true (by kernel_rfl)) (fun _ _ _ _ h=>h) ?_
 intro hpre C hC _ hE
 obtain ⟨P,w0,E0,av,hA,ro,df⟩:=C
 obtain ⟨rfl,rfl,rfl⟩:=hC
 refine swp_seq ?_
 refine zR [1] [0] (Ak 2 tv) ?_
 refine swp_seq ?_
 refine zC ([(2,CallSpec.eq (s74 (Twn.house t)) [true])]) [2] [] (Ak 2 (An (An (An (zr (AV.agg (cHs (Twn.house t)))) tv) (An (t74 (Twn.house t)) (An (o0 hpre) (Ak 1 (fun (i0:Env)=>tv))))) (Ak 1 (An (fun (y1:(!far7 (Twn.house t))=true)=>(An (Ak 1 tv) tv)) (An (fun (y2:(!far7 (Twn.house t))=true)=>(An (An (fun (y3:(!far7 (Twn.house t))=true)=>y2) tv) tv)) (An (fun (y4:(!far7 (Twn.house t))=true)=>(An (An (fun (y5:(!far7 (Twn.house t))=true)=>y4) tv) tv)) (An (fun (y6:(!far7 (Twn.house t))=true)=>(An (An (fun (y7:(!far7 (Twn.house t))=true)=>y6) (Ak 1 tv)) tv)) (An (An (fun (y8:far7 (Twn.house t)=true)=>tv) (fun (y9:far7 (Twn.house t)=false)=>(o1 hpre y9))) (Ak 1 (An (fun (y10:(!bif far7 (Twn.house t) then true else decide (40 < (↑((Twn.places t).length):Int)))=true)=>(An (Ak 1 tv) tv)) (An (fun (y11:(!bif far7 (Twn.house t) then true else decide (40 < (↑((Twn.places t).length):Int)))=true)=>(An (An (fun (y12:(!bif far7 (Twn.house t) then true else decide (40 < (↑((Twn.places t).length):Int)))=true)=>y11) tv) tv)) (An (fun (y13:(!bif far7 (Twn.house t) then true else decide (40 < (↑((Twn.places t).length):Int)))=true)=>(An (An (fun (y14:(!bif far7 (Twn.house t) then true else decide (40 < (↑((Twn.places t).length):Int)))=true)=>y13) tv) tv)) (An (fun (y15:(!bif far7 (Twn.house t) then true else decide (40 < (↑((Twn.places t).length):Int)))=true)=>(An (An (fun (y16:(!bif far7 (Twn.house t) then true else decide (40 < (↑((Twn.places t).length):Int)))=true)=>y15) (Ak 1 tv)) tv)) (An (An (fun (y17:(bif far7 (Twn.house t) then true else decide (40 < (↑((Twn.places t).length):Int)))=true)=>tv) (fun (y18:(bif far7 (Twn.house t) then true else decide (40 < (↑((Twn.places t).length):Int)))=false)=>(o2 hpre y18))) (Ak 1 (An (fun (y19:(!bif bif far7 (Twn.house t) then true else decide (40 < (↑((Twn.places t).length):Int)) then true else decide (40 < (↑((Twn.carry t).length):Int)))=true)=>(An (Ak 1 tv) tv)) (An (fun (y20:(!bif bif far7 (Twn.house t) then true else decide (40 < (↑((Twn.places t).length):Int)) then true else decide (40 < (↑((Twn.carry t).length):Int)))=true)=>(An (An (fun (y21:(!bif bif far7 (Twn.house t) then true else decide (40 < (↑((Twn.places t).length):Int)) then true else decide (40 < (↑((Twn.carry t).length):Int)))=true)=>y20) tv) tv)) (An (fun (y22:(!bif bif far7 (Twn.house t) then true else decide (40 < (↑((Twn.places t).length):Int)) then true else decide (40 < (↑((Twn.carry t).length):Int)))=true)=>(An (An (fun (y23:(!bif bif far7 (Twn.house t) then true else decide (40 < (↑((Twn.places t).length):Int)) then true else decide (40 < (↑((Twn.carry t).length):Int)))=true)=>y22) tv) tv)) (An (fun (y24:(!bif bif far7 (Twn.house t) then true else decide (40 < (↑((Twn.places t).length):Int)) then true else decide (40 < (↑((Twn.carry t).length):Int)))=true)=>(An (An (fun (y25:(!bif bif far7 (Twn.house t) then true else decide (40 < (↑((Twn.places t).length):Int)) then true else decide (40 < (↑((Twn.carry t).length):Int)))=true)=>y24) (Ak 1 tv)) tv)) (An (An (fun (y26:(bif bif far7 (Twn.house t) then true else decide (40 < (↑((Twn.places t).length):Int)) then true else decide (40 < (↑((Twn.carry t).length):Int)))=true)=>tv) (fun (y27:(bif bif far7 (Twn.house t) then true else decide (40 < (↑((Twn.places t).length):Int)) then true else decide (40 < (↑((Twn.carry t).length):Int)))=false)=>(o3 hpre y27))) (Ak 1 tv))))))))))))))))))))) ?_
 refine swp_ret ?_
 exact zT [] (An (Ak 1 tv) (An (An (cb (o4 hpre)) (zr nilN)) (An (zr true) (An (zr true) (zr true)))))
theorem t32 (t:Twn):Triple Try.prog 32 (s32 t):=by
 apply w32
 case o0=>intro hp; exact hp.1
 all_goals (first | ((repeat intro _) <;> (try simp only [Bool.cond_true_left,Bool.cond_false_right,Bool.not_not,Bool.not_eq_true',Bool.not_eq_false',Bool.or_eq_true,Bool.or_eq_false_iff,Bool.and_eq_true,decide_eq_true_eq,decide_eq_false_iff_not,inI,big] at *) <;> first | (exact rfl) | omega | (exact ⟨Nat.zero_le _,fun j hj=>absurd hj (Nat.not_lt_zero j)⟩) | (simp_all; done) | (simp_all; omega)) | skip)
theorem w5 (t:Twn)
  (o0:fitsT t->(!huge10 t)=true->decide (6 < (↑((Twn.places t).length):Int))=true->(!huge10 t && decide (6 < (↑((Twn.places t).length):Int)))=true)
  (o1:fitsT t->huge10 t=false->(!huge10 t)=true)
  (o2:fitsT t->(bif huge10 t then true else bif decide (6 < (↑((Twn.places t).length):Int)) then decide (check10 t=0) else false)=far10 t) :
  Triple Try.prog 5 (s5 t):=by
 refine triple_of Try.func5 rfl Try.call5 T0_ok _ rfl rfl rfl rfl (Nat.le_of_ble_eq_true (by kernel_rfl)) (fun _ _ _ _ h=>h) ?_
 intro hpre C hC _ hE
 obtain ⟨P,w0,E0,av,hA,ro,df⟩:=C
 obtain ⟨rfl,rfl,rfl⟩:=hC
 refine swp_seq ?_
 refine zR [1] [0] (Ak 2 tv) ?_
 refine swp_seq ?_
 refine zC ([(1,CallSpec.eq (s32 t) [true]),(9,CallSpec.eq (s6 t) [true])]) [2] [] (Ak 1 (An (An (An (zr (AV.agg (cTwn t))) tv) (An (t32 (t)) (An hpre (Ak 1 (fun (i0:Env)=>tv))))) (Ak 1 (An (fun (y1:(!huge10 t)=true)=>(An (Ak 1 tv) tv)) (An (fun (y2:(!huge10 t)=true)=>(An (An (fun (y3:(!huge10 t)=true)=>y2) tv) tv)) (An (fun (y4:(!huge10 t)=true)=>(An (An (fun (y5:(!huge10 t)=true)=>y4) tv) tv)) (An (fun (y6:(!huge10 t)=true)=>(An (An (fun (y7:(!huge10 t)=true)=>y6) (Ak 1 tv)) tv)) (An (fun (y8:(!huge10 t)=true)=>(An (An (fun (y9:(!huge10 t)=true)=>y8) tv) tv)) (An (fun (y10:(!huge10 t && decide (6 < (↑((Twn.places t).length):Int)))=true)=>(An (Ak 1 tv) tv)) (An (fun (y11:(!huge10 t && decide (6 < (↑((Twn.places t).length):Int)))=true)=>(An (Ak 1 (An (fun (y12:(!huge10 t && decide (6 < (↑((Twn.places t).length):Int)))=true)=>y11) tv)) (An (An (zr (AV.agg (cTwn t))) tv) (An (t6 (t)) (An hpre (Ak 1 (fun (i13:Env)=>tv))))))) (An (fun (y14:(!huge10 t && decide (6 < (↑((Twn.places t).length):Int)))=true)=>(An (An (fun (y15:(!huge10 t && decide (6 < (↑((Twn.places t).length):Int)))=true)=>y14) (Ak 1 tv)) tv)) (An (fun (y16:(!huge10 t)=true)=>(An (An (fun (y17:(!huge10 t)=true)=>y16) tv) (An (fun (y18:decide (6 < (↑((Twn.places t).length):Int))=true)=>(o0 hpre y16 y18)) (fun (y19:decide (6 < (↑((Twn.places t).length):Int))=false)=>tv)))) (An (An (fun (y20:huge10 t=true)=>tv) (fun (y21:huge10 t=false)=>(o1 hpre y21))) (Ak 1 tv)))))))))))))) ?_
 refine swp_ret ?_
 exact zT [] (An (Ak 1 tv) (An (An (cb (o2 hpre)) (zr nilN)) (An (zr true) (An (zr true) (zr true)))))
theorem t5 (t:Twn):Triple Try.prog 5 (s5 t):=by
 apply w5
 all_goals (first | ((repeat intro _) <;> (try simp only [Bool.cond_true_left,Bool.cond_false_right,Bool.not_not,Bool.not_eq_true',Bool.not_eq_false',Bool.or_eq_true,Bool.or_eq_false_iff,Bool.and_eq_true,decide_eq_true_eq,decide_eq_false_iff_not,inI,big] at *) <;> first | (exact rfl) | omega | (exact ⟨Nat.zero_le _,fun j hj=>absurd hj (Nat.not_lt_zero j)⟩) | (simp_all; done) | (simp_all; omega)) | skip)
abbrev q1k (t:Twn) (n:Nat) (Pq:Prop):Prop:=okH (Twn.house t)=true/\n < (Hs.things (Twn.house t)).length->Pq
abbrev q1l (t:Twn) (n:Nat) (x0:Nat) (Pq:Prop):Prop:=x0 < (Hs.things (Twn.house t)).length/\pgN (Twn.house t) x0=pgN (Twn.house t) n->Pq
abbrev q1m (t:Twn) (n:Nat) (x0:Nat) (Pq:Prop):Prop:=q1l t n x0 ((!decide (Thg.off (thg (Twn.house t) x0) = -1))=true->Pq)
theorem w16 (t:Twn) (n:Nat)
 (o0:q1k t n (n < (Hs.things (Twn.house t)).length/\pgN (Twn.house t) n=pgN (Twn.house t) n))
 (o1:q1k t n (∀ (x0:Nat),q1l t n x0 (0<=(x0:Int))))
 (o2:q1k t n (∀ (x0:Nat),q1l t n x0 ((x0:Int) < (↑((Hs.things (Twn.house t)).length):Int))))
 (o3:q1k t n (∀ (x0:Nat),q1m t n x0 (0<=(x0:Int))))
 (o4:q1k t n (∀ (x0:Nat),q1m t n x0 ((x0:Int) < (↑((Hs.things (Twn.house t)).length):Int))))
 (o5:q1k t n (∀ (x0:Nat),q1m t n x0 (Thg.off (thg (Twn.house t) x0)=(↑((Thg.off (thg (Twn.house t) x0)).toNat):Int))))
 (o6:q1k t n (∀ (x0:Nat),q1m t n x0 ((Thg.off (thg (Twn.house t) x0)).toNat < (Hs.things (Twn.house t)).length/\pgN (Twn.house t) (Thg.off (thg (Twn.house t) x0)).toNat=pgN (Twn.house t) n)))
 (o7:q1k t n (∀ (x0:Nat),q1m t n x0 ((Thg.off (thg (Twn.house t) x0)).toNat < x0)))
 (o8:q1k t n (∀ (x0:Nat),q1l t n x0 ((!decide (Thg.off (thg (Twn.house t) x0) = -1))=false->(x0:Int)=(↑(pgN (Twn.house t) n):Int)))) :
  Triple Try.prog 16 (s16 t n):=by
 refine triple_of Try.func16 rfl Try.call16 T0_ok _ rfl rfl rfl rfl (Nat.le_of_ble_eq_true (by kernel_rfl)) (fun _ _ _ _ h=>h) ?_
 intro hpre C hC _ hE
 obtain ⟨P,w0,E0,av,hA,ro,df⟩:=C
 obtain ⟨rfl,rfl,rfl⟩:=hC
 refine swp_seq ?_
 refine zR [1,2] [0] (Ak 2 tv) ?_
 refine swp_seq ?_
 refine swp_block ?_
 refine zL (Hint.ann (h16 t n) [(2,AV.ptr 0 [])] [(0,OB.cells 28 (cTwn t))] 10016) (zE hE [] [(0,.same 0)] [1] [0] (An (An (An (zr (some (Src.same 0))) (zr nilP)) (An (An (zr (iv (n:Int))) (zr true)) tv)) (An (An (An (zr (OB.cells 28 (cTwn t))) (zr true)) tv) (An (zr true) (zr true))))) (o0 hpre) (fun (x0:Nat) hx0 => ?_)
 refine swp_seq ?_
 refine swp_seq ?_
 refine zR [2,1,12] [0] (Ak 4 (An (An (o1 hpre x0 hx0) (o2 hpre x0 hx0)) (Ak 3 tv))) ?_
 refine zI (!decide (Thg.off (thg (Twn.house t) x0) = -1)) (fun y1 => ?_) (fun y1 => ?_)
 ·refine swp_skip ?_
  refine swp_block ?_
  refine zR [2,1] [0] (Ak 4 (An (An (o3 hpre x0 hx0 y1) (o4 hpre x0 hx0 y1)) (Ak 3 tv))) ?_
  exact zn (zE hE [] [(0,.same 0)] [] [0] (An (An (An (zr (some (Src.same 0))) (zr nilP)) (An (An (ci (o5 hpre x0 hx0 y1)) (zr nilN)) tv)) (An (An (An (zr (OB.cells 28 (cTwn t))) (zr true)) tv) (An (zr true) (zr true))))) (o6 hpre x0 hx0 y1) (o7 hpre x0 hx0 y1)
 ·refine swp_exit ?_
  refine swp_seq ?_
  refine zR [4] [] (Ak 2 tv) ?_
  refine swp_ret ?_
  exact zT [] (An (Ak 1 tv) (An (An (ci (o8 hpre x0 hx0 y1)) (zr nilN)) (An (zr true) (An (zr true) (zr true)))))
theorem t16 (t:Twn) (n:Nat):Triple Try.prog 16 (s16 t n):=by
 apply w16
 all_goals (try delta q1k q1l q1m)
 all_goals (first | ((repeat intro _) <;> (try simp only [Bool.cond_true_left,Bool.cond_false_right,Bool.not_not,Bool.not_eq_true',Bool.not_eq_false',Bool.or_eq_true,Bool.or_eq_false_iff,Bool.and_eq_true,decide_eq_true_eq,decide_eq_false_iff_not,inI,big] at *) <;> first | (exact rfl) | omega | (exact ⟨Nat.zero_le _,fun j hj=>absurd hj (Nat.not_lt_zero j)⟩) | (simp_all; done) | (simp_all; omega)) | skip)
 all_goals (intro hp x hx hh; obtain ⟨hok,hn⟩:=hp; obtain ⟨l1,l2,hT,hM⟩:=okH_iff.1 hok; obtain ⟨f1,_⟩:=okT_facts (hT x hx.1); simp only [Bool.not_eq_true',Bool.not_eq_false',decide_eq_true_eq,decide_eq_false_iff_not] at hh)
 case o6=>exact ⟨by omega,by rw [← hx.2,pgN_eq t.house x (.inr (by omega)),if_neg hh]⟩
 case o8=>rw [← hx.2,pgN_eq t.house x (.inl hh),if_pos hh]
 all_goals omega
end Go.Ab
namespace Go.Sh
def markedB (h:Hs) (B:Nat->Int) (i:Nat):Bool:=decide (0<=B i) && decide ((h.marks.getD (B i).toNat default).th=i)
def markB (h:Hs) (c:Int) (i:Nat) (st:Int × Int) (n:Nat):Bool:=(decide ((h.marks.getD n default).th=i) && decide ((h.marks.getD n default).ch=c)) && (decide ((h.marks.getD n default).at_ < st.1) || (decide ((h.marks.getD n default).at_=st.1) && !(decide (0<=st.2) && decide ((h.marks.getD st.2.toNat default).th=i))))
def markStep (h:Hs) (c:Int) (i:Nat) (st:Int × Int) (n:Nat):Int × Int:=if markB h c i st n then ((h.marks.getD n default).at_,(n:Int)) else st
def baseB (h:Hs) (i:Nat) (tab:List (Int × Int)):Bool := !decide ((thg h i).off = -1) && decide ((tab.getD (thg h i).off.toNat (0,0)).1<=(thg h i).at_)
def base7 (h:Hs) (i:Nat) (tab:List (Int × Int)):Int × Int:=if baseB h i tab then ((thg h i).at_,(tab.getD (thg h i).off.toNat (0,0)).2) else (100,-1)
def markTo (h:Hs) (c:Int) (i:Nat) (tab:List (Int × Int)) (n:Nat):Int × Int:=(List.range n).foldl (markStep h c i) (base7 h i tab)
theorem markTo_succ (h:Hs) (c:Int) (i:Nat) (tab:List (Int × Int)) (n:Nat):markTo h c i tab (n + 1)=markStep h c i (markTo h c i tab n) n:=Go.Ab.foldl_range_succ _ _ _
def tab7 (h:Hs) (c:Int):Nat->List (Int × Int)
 | 0=>[]
 | n + 1=>tab7 h c n ++ [markTo h c n (tab7 h c n) h.marks.length]
def tS (h:Hs) (c:Int) (n j:Nat):Int:=((tab7 h c n).getD j (0,0)).1
def tB (h:Hs) (c:Int) (n j:Nat):Int:=((tab7 h c n).getD j (0,0)).2
def wS (f:Nat->Int) (i:Nat) (v:Int) (j:Nat):Int:=if j=i then v else f j
def mS (h:Hs) (c:Int) (i n:Nat):Int:=(markTo h c i (tab7 h c i) n).1
def mB (h:Hs) (c:Int) (i n:Nat):Int:=(markTo h c i (tab7 h c i) n).2
theorem tab7_len (h:Hs) (c:Int):∀ n,(tab7 h c n).length=n:=by
 intro n
 induction n with
 | zero=>rfl
 | succ n ih=>rw [tab7,List.length_append,ih]; rfl
def hasB (S:Nat->Int) (m n:Int):Bool:=decide (S n.toNat<=m)
def thTo (P:Nat->Bool):Nat->List Int
 | 0=>[]
 | n + 1=>if P n then thTo P n ++ [(n:Int)] else thTo P n
def lackP (h:Hs) (S:Nat->Int) (i:Nat):Bool:=decide ((thg h i).prints=1) && !hasB S 99 (i:Int)
def lacks7 (h:Hs) (c:Int):List Int:=thTo (lackP h (tS h c h.things.length)) h.things.length
def priced (h:Hs) (i:Nat) (cost:Int):Hs:=⟨h.things.set i ⟨(thg h i).off,(thg h i).at_,cost,(thg h i).prints⟩,h.marks⟩
def exH:Hs:=⟨[⟨-1,0,20,0⟩,⟨0,5,9,0⟩,⟨1,10,3,1⟩,⟨1,20,3,1⟩,⟨0,25,8,0⟩,⟨4,30,2,1⟩],[⟨0,1,12⟩,⟨1,0,22⟩]⟩
def exG:Hs:=priced (priced exH 2 5) 3 5
def exT:Twn:=⟨⟨[⟨-1,0,5,0⟩,⟨0,10,3,0⟩,⟨1,20,2,1⟩,⟨-1,5,5,0⟩,⟨3,30,2,1⟩],[⟨0,1,15⟩,⟨1,3,25⟩]⟩,[0,1,1,1,1],[9,2,4,5,3],[3,4,1],40⟩
def altM (h:Hs) (c now n:Int):Mrk:=⟨c,n,max now (thg h n.toNat).at_⟩
def altMs (h:Hs) (c now:Int) (l:List Int):List Mrk:=h.marks ++ l.map (altM h c now)
def altH (h:Hs) (c now:Int) (l:List Int):Hs:=⟨h.things,altMs h c now l⟩
end Go.Sh
namespace Go.En
open Go Go.Ab Go.Sh
def cHo (h:Hs) (c:Int) (S B:Nat->Int):List AV:=[.sl 4 h.things.length (fun i=>cThg (thg h i)),aMrks h.marks,iv c,.arr 1 8 (fun j=>[iv (S j)]),.arr 1 8 (fun j=>[iv (B j)])]
end Go.En
namespace Go.Ab
open Go Go.RowKit Go.Proofs Go.Sh Go.En
def s133 (b:Nat) (g:Hs) (c:Int) (S B:Nat->Int) (i:Nat):CallSpec:=ptrSpec b [] [iv i] 184 (cHo g c S B) (cHo g c S B) (i < 8/\B i < g.marks.length) (bv (markedB g B i))
def s112 (g:Hs) (c:Int):CallSpec:={ args:=[vHs g,iv c],res := .rp (cHo g c (tS g c g.things.length) (tB g c g.things.length)),pre:=okW g=true }
def h112a (g:Hs) (c:Int):Hint:={ X:=Nat,M:=fun i=>[(18,iv i),(5,.ptr 5000 [])],H:=fun i=>[(5000,.cells 184 (cHo g c (tS g c i) (tB g c i)))],I:=fun i=>i<=g.things.length,mu:=fun i=>g.things.length - i,x0:=(0:Nat),nx:=fun i=>i + 1 }
def h112b (g:Hs) (c:Int) (x:Nat):Hint:={ X:=Nat,M:=fun n=>[(70,iv n),(5,.ptr 5001 [])],H:=fun n=>[(5001,.cells 184 (cHo g c (wS (tS g c x) x (mS g c x n)) (wS (tB g c x) x (mB g c x n))))],I:=fun n=>n<=g.marks.length,mu:=fun n=>g.marks.length - n,x0:=(0:Nat),nx:=fun n=>n + 1 }
def c112 (g:Hs) (c:Int) (x n:Nat):CallSpec:=s133 5001 g c (wS (tS g c x) x (mS g c x n)) (wS (tB g c x) x (mB g c x n)) x
def s119 (g:Hs) (c:Int) (S B:Nat->Int) (n m:Int):CallSpec:={ args:=[.rp (cHo g c S B),iv n,iv m],res:=bv (hasB S m n),pre:=0<=n/\n < 8 }
def s134 (g:Hs) (c:Int) (S B:Nat->Int) (P:Nat->Bool):CallSpec:={ args:=[.rp (cHo g c S B),.fn 0],res:=aInts (thTo P g.things.length),pre:=g.things.length<=8,fnok:=fnokOf Try.prog 0 (fun i:{ i:Nat // i < g.things.length }=>[iv (i.1:Int),vThg (thg g i.1)]) (fun i=>bv (P i.1)) }
def h134 (g:Hs) (c:Int) (S B:Nat->Int) (P:Nat->Bool):Hint:={ X:=Nat,M:=fun i=>[(13,iv i),(4,.vec 5000)],H:=fun i=>[(5000,.vec 3 1 (thTo P i).length (fun k=>[iv ((thTo P i).getD k 0)]))],I:=fun i=>i<=g.things.length,mu:=fun i=>g.things.length - i,x0:=(0:Nat),nx:=fun i=>i + 1 }
def c134 (g:Hs) (c:Int) (S B:Nat->Int) (P:Nat->Bool) (x:Nat):CallSpec:={ args:=[iv x,vThg (thg g x)],res:=bv (P x) }
def s135 (n:Nat) (t:Thg) (g:Hs) (c:Int) (S B:Nat->Int):CallSpec:={ args:=[iv n,vThg t,.rp [.rp (cHo g c S B)]],res:=bv (decide (t.prints=1) && !hasB S 99 n),pre:=n < 8 }
def s113 (g:Hs) (c:Int) (S B:Nat->Int):CallSpec:={ args:=[.rp (cHo g c S B)],res:=aInts (thTo (lackP g S) g.things.length),pre:=g.things.length<=8 }
def c113 (g:Hs) (c:Int) (S B:Nat->Int):CallSpec:=s134 g c S B (lackP g S)
def ou11 (g:Hs):OutSpec:={ args:=[vHs g],pre:=g.things.length<=65536/\g.marks.length<=65536,res := .agg [.vec 0,.vec 1],hout:=[(0,.vec 43 4 g.things.length (fun k=>cThg (thg g k))),(1,.vec 36 3 g.marks.length (fun k=>cMrk (g.marks.getD k default)))] }
def s11o (g:Hs) (id:Nat):CallSpec:=(ou11 g).at [(0,id),(1,id + 1)]
def s11 (g:Hs):CallSpec:={ args:=[vHs g],pre:=g.things.length<=65536/\g.marks.length<=65536,res:=vHs g }
def s77 (g:Hs) (i cost:Int):CallSpec:={ args:=[vHs g,iv i,iv cost],res:=vHs (priced g i.toNat cost),pre:=(g.things.length<=65536/\g.marks.length<=65536)/\0<=i/\i < g.things.length }
def c77 (g:Hs) (i cost:Int) (id:Nat):CallSpec:=s11o g id
def s38:CallSpec:={ args:=[],res := .tup [vHs exH,vHs exG] }
def c38a:CallSpec:=s77 exH 2 5
def c38b:CallSpec:=s77 (priced exH 2 5) 3 5
def s38o (g k:Hs):CallSpec:={ args:=[],res := .tup [vHs g,vHs k],pre:=g=exH/\k=exG }
def s41:CallSpec:={ args:=[],res:=vTwn exT }
def s41o (t:Twn):CallSpec:={ args:=[],res:=vTwn t,pre:=t=exT }
def small10 (t:Twn):Prop:=(t.house.things.length<=64/\t.house.marks.length<=64)/\t.places.length<=64/\t.carry.length<=64/\t.rooms.length<=64
def s9 (t:Twn):CallSpec:={ args:=[vTwn t],pre:=small10 t,res:=vTwn t }
def s13 (g:Hs) (c now:Int) (l:List Int):CallSpec:={ args:=[vHs g,iv c,iv now,aInts l],pre:=(g.things.length<=64/\g.marks.length<=64/\l.length<=64) /\ ∀ k,k < l.length->0<=l.getD k 0/\l.getD k 0 < g.things.length,res:=vHs (altH g c now l) }
def h13 (g:Hs) (c now:Int) (l:List Int):Hint:={ X:=Nat,M:=fun i=>[(10,iv i),(9,.ptr 5001 [])],H:=fun i=>[(5001,.cells 25 [.sl 4 g.things.length (fun i=>cThg (thg g i)),.vec 5000]),(5000,.vec 36 3 (altMs g c now (l.take i)).length (fun k=>cMrk ((altMs g c now (l.take i)).getD k default)))],I:=fun i=>i<=l.length,mu:=fun i=>l.length - i,x0:=(0:Nat),nx:=fun i=>i + 1 }
def c13 (g:Hs) (c now:Int) (l:List Int) (id:Nat):CallSpec:=s11o g id
end Go.Ab
