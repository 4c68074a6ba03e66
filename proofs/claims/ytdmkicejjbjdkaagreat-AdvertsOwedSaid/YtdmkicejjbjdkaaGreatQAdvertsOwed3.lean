/- Part 3 of the proof: own library, plain forms and walks. -/
import Derived.Test.YtdmkicejjbjdkaaGreatQAdvertsOwed2
import Derived.Sort.Grow
import Derived.Lib.SlicesCompact
set_option linter.all false
set_option linter.deprecated false
namespace Go.Ab
open Go Go.RowKit
theorem rnK_nil (v:AV):rnK [] v=v:=by cases v <;> rfl
theorem rnC_nil (v:AV):rnC [] v=v:=by
 cases v with
 | clo f cs=>show AV.clo f (cs.map (rnK []))=_; rw [List.map_congr_left (fun v _=>rnK_nil v),List.map_id']
 | _=>rfl
theorem rnCs_nil (cs:List AV):cs.map (rnC [])=cs:=by rw [List.map_congr_left (fun v _=>rnC_nil v),List.map_id']
theorem rnV_nil (v:AV):rnV [] v=v:=by
 cases v with
 | agg cs=>simp only [rnV,rnCs_nil]
 | clo f cs=>simp only [rnV,rnCs_nil]
 | _=>first | rfl | (simp only [rnV,rnC_nil])
theorem rnB_nil (ob:OB):rnB [] ob=ob:=by
 cases ob with
 | cells t cs=>simp only [rnB,rnCs_nil]
 | vecx t sz n f j fj=>simp only [rnB,rnCs_nil]
 | _=>rfl
def RndK (C:Ctx) (nt:Nat) (hout:List (Nat × OB)):AX->ASt->Prop
 | .normal,st => ∃ st2,Ent C nt st st2/\hoIn st2.hp hout
 | _,_=>False
def AsgK (P:Program) (N nt:Nat) (body:Code) (hout:List (Nat × OB)):AX->ASt->Prop
 | .normal,st => ∀ C:Ctx,C.P=P->(∀ j,N<=j->C.E0.blk j=none/\C.E0.hdr j=none)->SWP C nt body (RndK C nt hout) st
 | _,_=>False
def rndOK (s:CallSpec) (tm:List (Nat × AV)) (N:Nat):Bool :=
 noDup (s.hin.map (·.1)) && tm.all (fun p=>kV (s.hin.map (·.1)) p.2) && s.hin.all (fun p=>kB (s.hin.map (·.1)) p.2 && decide (p.1 < N)) && s.hout.all (fun p=>kB (s.hout.map (·.1)) p.2) &&
 (match s.args with | [A]=>kV (s.hin.map (·.1)) A | _=>false) && (match s.res with | .lit (.bool true)=>true | _=>false)
theorem look_all {p:AV->Bool} (hp:p .any=true):∀ {tm:List (Nat × AV)},tm.all (fun q=>p q.2)=true -> ∀ t,p (look tm t)=true:=by
 intro tm
 induction tm with
 | nil=>intro _ t; exact hp
 | cons q r ih =>
  intro h t
  simp only [List.all_cons,Bool.and_eq_true] at h
  simp only [look]
  split
  ·exact h.1
  ·exact ih h.2 t
theorem round_io {P:Program} {E1:Env} {nt l p:Nat} {rec:Loop} {assign body:Code} {a:Act} {tm:List (Nat × AV)} {s:CallSpec} (N:Nat) (hl:E1.M l=some (.loop rec)) (hrs:rec.state = .ready) (hrp:rec.pending=none) (hrt:rec.tmps=a.tmps) (hrps:rec.params = #[p])
  (hra:rec.assign=assign) (hrb:rec.body=body) (hsz:a.tmps.size=nt) (hp:p < nt) (htm:∀ t,Rel E1 true (look tm t) (a.tmps.getD t undef)) (hok:rndOK s tm N=true)
  (hbody:s.pre -> ∀ C:Ctx,C.P=P->(∀ j,N<=j->C.E0.blk j=none/\C.E0.hdr j=none)->SWP C nt assign (AsgK P N nt body s.hout) ⟨(p,s.args.headD .any) :: tm,s.hin,N⟩) :
  FnIO P E1 (.func (.yield l) #[] #[]) s:=by
 intro hpre E2 w vs le hh hlen hrel hfresh
 simp only [rndOK,Bool.and_eq_true,List.all_eq_true,decide_eq_true_eq] at hok
 obtain ⟨⟨⟨⟨⟨o1,o2⟩,o3⟩,o4⟩,o5⟩,o6⟩:=hok
 obtain ⟨A,hA,hkA⟩:∃ A,s.args = [A]/\kV (s.hin.map (·.1)) A=true:=by
  split at o5
  ·rename_i A e; exact ⟨A,e,o5⟩
  ·cases o5
 have hres:s.res = .lit (.bool true):=by
  split at o6
  ·assumption
  ·cases o6
 rw [hA] at hlen hrel hbody
 obtain ⟨v,rfl⟩:∃ v,vs = [v]:=by
  match vs,hlen with
  | [v],_=>exact ⟨v,rfl⟩
 have hl2:E2.M l=some (.loop rec):=le.M _ _ hl
 have hlw:w.heap[l]? = some (.loop rec):=hh.mem _ _ hl2
 have hlt:l < w.heap.size:=(Array.getElem?_eq_some_iff.1 hlw).1
 have hy:=run_yield (P:=P) (args := #[v]) hlw (by rw [hrps]; rfl)
 rw [hrps,hrt,hra,hrb] at hy
 have hy':(Instr.yield l #[v]).run P w = .ok (.round l rec.fn (a.tmps.setIfInBounds p v) assign body) w:=by simpa using hy
 refine ⟨l,rfl,rec.fn,a.tmps.setIfInBounds p v,assign,body,hy',roundIn_of_wpIn trivial ?_⟩
 -- names: of what is handed in alone
 let ks:=s.hin.map (·.1)
 let E0:Env:={ E2 with blk:=fun j=>if j ∈ ks then E2.blk j else none,hdr:=fun j=>if j ∈ ks then E2.hdr j else none }
 have hs0:∀ c,c ∈ ks->E2.blk (renI [] c)=E0.blk c/\E2.hdr (renI [] c)=E0.hdr c:=fun c hc=>⟨(if_pos hc).symm,(if_pos hc).symm⟩
 have hmem:∀ {i:Nat} {ob:OB},Heap.of s.hin i=some ob->i ∈ ks:=fun h=>List.mem_map_of_mem (f:=fun x:Nat × OB=>x.1) (Heap.of_mem h)
 let av:=(calleeCtx P E2 w s.hin).avail
 let CA:Ctx:=⟨P,w,E0,av,fun _ h => .inl h,some l,false⟩
 have hokA:HeapOK CA E0 (Heap.of s.hin) w:=by
  refine ⟨rfl,rfl,rfl,Nat.le_refl _,fun _ _=>rfl,fun b o h=>hh.mem b o h,Env.le.refl _,fun b o h => .inl h,fun i ob h => ?_,fun i j x hij hi hj hix hjx => ?_⟩
  ·have ho:=hh.own i ob h
   refine rnB_inv (C:=calleeCtx P E2 w s.hin) (C':=CA) (E:=E0) (F:=E2) (l:=[]) rfl rfl hs0 (fun _ h=>h) (hmem h) (o3 _ (Heap.of_mem h)).1 ?_
   rw [rnB_nil]; exact ho
  ·have get:∀ i,Heap.of s.hin i ≠ none->i ∈ ks:=fun i h=>by
    cases e:Heap.of s.hin i with
    | none=>exact absurd e h
    | some ob=>exact hmem e
   exact hh.sep i j x hij hi hj (by rw [← hix]; exact (hs0 i (get i hi)).1) (by rw [← hjx]; exact (hs0 j (get j hj)).1)
 have hnone:∀ j,N<=j->E0.blk j=none/\E0.hdr j=none:=by
  intro j hj
  have:¬ j ∈ ks:=fun h=>by
   obtain ⟨q,hq,rfl⟩:=List.mem_map.1 h
   have:=(o3 q hq).2; omega
  exact ⟨if_neg this,if_neg this⟩
 have htmA:∀ t,Rel E0 true (look ((p,A) :: tm) t) ((a.tmps.setIfInBounds p v).getD t undef):=by
  intro t
  simp only [look]
  by_cases e:p=t
  ·subst e
   rw [if_pos rfl]
   have:(a.tmps.setIfInBounds p v).getD p undef=v:=by simp [Array.getD_eq_getD_getElem?,hsz,hp]
   rw [this]
   refine rnV_inv (E:=E0) (F:=E2) (l:=[]) rfl rfl hs0 hkA ?_
   rw [rnV_nil]; exact hrel 0
  ·rw [if_neg e]
   have:(a.tmps.setIfInBounds p v).getD t undef=a.tmps.getD t undef:=by simp [Array.getD_eq_getD_getElem?,Array.getElem?_setIfInBounds_ne e]
   rw [this]
   refine rnV_inv (E:=E0) (F:=E2) (l:=[]) rfl rfl hs0 (look_all (p:=kV ks) rfl (by rw [List.all_eq_true]; exact o2) t) ?_
   rw [rnV_nil]; exact (htm t).mono le
 have hsat:Sat CA E0 nt ⟨(p,A) :: tm,s.hin,N⟩ w { tmps:=a.tmps.setIfInBounds p v,defers:=[] }:=⟨⟨hokA,htmA,⟨fun _=>rfl,trivial⟩,by simp [hsz]⟩,fun j hj=>hnone j hj⟩
 have hsw:=hbody hpre CA rfl hnone E0 w _ hsat
 refine wpIn_mono (F:=Fence.wide.inRound l) hsw ?_
 rintro e a1 w1 ⟨x,E3,st3,rfl,hs3,hk3⟩
 cases x with
 | ret=>exact hk3.elim
 | exit id=>exact hk3.elim
 | normal =>
  have hE03:=hs3.ok.heap.le
  have hl3:E3.M l=some (.loop rec):=hE03.M _ _ hl2
  have hlw1:w1.heap[l]? = some (.loop rec):=hs3.ok.heap.mem _ _ hl3
  refine ⟨_,run_beginRound hlw1 hrs,?_⟩
  -- the body's context: the record is busy
  let busy:Obj := .loop { rec with state := .busy }
  let EB0:Env:={ E0 with M:=fun b=>if b=l then some busy else E0.M b }
  let EB:Env:={ E3 with M:=fun b=>if b=l then some busy else E3.M b }
  let CB:Ctx:=⟨P,w,EB0,fun b=>av b ∨ b=l,fun _ h => .inl (.inl h),some l,false⟩
  have hleB:EB0.le EB:=⟨fun b o hb=>by
    replace hb:(if b=l then some busy else E0.M b)=some o:=hb
    show (if b=l then some busy else E3.M b)=some o
    split at hb
    ·rw [if_pos ‹_›]; exact hb
    ·rw [if_neg ‹_›]; exact hE03.M _ _ hb,hE03.blk,hE03.hdr,hE03.fns⟩
  have hokB:HeapOK CB EB (Heap.of st3.hp) (w1.putObj l busy):=by
   refine hs3.ok.heap.putL (C2:=CB) (m:=some busy) hl3 rfl (.inr rfl) rfl rfl rfl rfl rfl rfl (fun _ h => .inl h) (fun b hb => ?_) hleB (fun b o hb => ?_)
   ·have hne:b ≠ l:=fun e=>hb (.inr e)
    rw [World.putObj_heap_other hne]
    exact hs3.ok.heap.pres b (fun h=>hb (.inl h))
   ·replace hb:(if b=l then some busy else E3.M b)=some o:=hb
    split at hb
    ·rename_i e; exact .inr (.inr e)
    ·rename_i e
     rcases hs3.ok.heap.ext b o hb with h | h
     ·exact .inl (by show (if b=l then some busy else E0.M b)=some o; rw [if_neg e]; exact h)
     ·exact .inr (.inl h)
  have hleC:E3.leC EB:=⟨fun b o hb hc=>by
    show (if b=l then some busy else E3.M b)=some o
    rw [if_neg (fun e=>by rw [e,hl3] at hb; cases hb; cases hc)]; exact hb,fun _ _ h=>h,fun _ _ h=>h,rfl⟩
  have hsatB:Sat CB EB nt st3 (w1.putObj l busy) a1:=⟨⟨hokB,fun t=>(hs3.ok.tm t).monoC hleC,⟨fun _=>hs3.ok.defers.1 rfl,by rw [hs3.ok.defers.1 rfl]; trivial⟩,hs3.ok.size⟩,hs3.fresh⟩
  have hswB:=hk3 CB rfl hnone EB _ a1 hsatB
  refine wpIn_mono (F:=Fence.wide.inRound l) hswB ?_
  rintro e a4 w4 ⟨x,E4,st4,rfl,hs4,hk4⟩
  cases x with
  | ret=>exact hk4.elim
  | exit id=>exact hk4.elim
  | normal =>
   obtain ⟨st5,hent,hho⟩:=hk4
   obtain ⟨E5,hs5⟩:=hent E4 w4 a4 hs4
   have hle5:=hs5.ok.heap.le
   have hl5:E5.M l=some busy:=hle5.M l busy (if_pos rfl)
   have hlw4:w4.heap[l]? = some busy:=hs5.ok.heap.mem _ _ hl5
   have hend:=run_endRound (P:=P) none hlw4
   have hback:({ { rec with state:=LoopState.busy } with state:=(if (none:Option Code).isNone=true then LoopState.ready else LoopState.done),pending:=none }:Loop)=rec:=by
    cases rec; simp only at hrs hrp; subst hrs; subst hrp; rfl
   rw [hback] at hend
   refine ⟨_,_,hend,?_⟩
   -- back to the names of the call
   let F0:Env:={ E5 with M:=fun b=>if b=l then some (.loop rec) else E5.M b }
   let C3:Ctx:=⟨P,w,E0,av,fun _ h => .inl h,some l,false⟩
   have hle0:E0.le F0:=⟨fun b o hb=>by
     show (if b=l then some (.loop rec) else E5.M b)=some o
     by_cases e:b=l
     ·rw [if_pos e]
      have:E0.M b=some (.loop rec):=by rw [e]; exact hl2
      rw [← this]; exact hb
     ·rw [if_neg e]
      exact hle5.M b o (by show (if b=l then some busy else E0.M b)=some o; rw [if_neg e]; exact hb),hle5.blk,hle5.hdr,hle5.fns⟩
   have hok6:HeapOK C3 F0 (Heap.of st5.hp) (w4.putObj l (.loop rec)):=by
    have hswap:=hs5.ok.heap.putL (C2:={ CB with E0:={ EB0 with M:=fun b=>if b=l then some (.loop rec) else E0.M b } }) (E2:=F0) (o' := .loop rec) (m:=some (.loop rec)) hl5 rfl (.inr rfl) rfl rfl rfl rfl rfl rfl (fun _ h=>h) (fun b hb => ?_) ⟨fun b o hb => ?_,hle0.blk,hle0.hdr,hle0.fns⟩ (fun b o hb => ?_)
    ·refine ⟨hswap.os,hswap.tape,hswap.output,hswap.size,fun b hb => ?_,hswap.mem,hle0,fun b o hb => ?_,fun i ob hi => ?_,hswap.sep⟩
     ·by_cases e:b=l
      ·rw [e,World.putObj_heap_same (Array.getElem?_eq_some_iff.1 hlw4).1]; exact hlw.symm
      ·exact hswap.pres b (fun h=>h.elim hb e)
     ·replace hb:(if b=l then some (.loop rec) else E5.M b)=some o:=hb
      split at hb
      ·rename_i e; exact .inl (by rw [e]; show E2.M l=some o; rw [hl2]; exact hb)
      ·rename_i e
       rcases hs5.ok.heap.ext b o hb with h | h
       ·replace h:(if b=l then some busy else E0.M b)=some o:=h
        rw [if_neg e] at h; exact .inl h
       ·exact .inr (h.resolve_right e)
     ·have ho:=hswap.own i ob hi
      -- no block of the call's own is the record
      refine ho.moveAv (fun k hk => ?_)
      rcases hk with ⟨hav,hM⟩
      refine hav.resolve_right (fun e => ?_)
      rw [e] at hM
      replace hM:(if l=l then some (.loop rec) else E5.M l)=(none:Option Obj):=hM
      rw [if_pos rfl] at hM; cases hM
    ·have hne:b ≠ l:=fun e=>hb (.inr e)
     rw [World.putObj_heap_other hne]
     exact hs5.ok.heap.pres b hb
    ·replace hb:(if b=l then some (.loop rec) else E0.M b)=some o:=hb
     by_cases e:b=l
     ·rw [if_pos e] at hb; show (if b=l then some (.loop rec) else E5.M b)=some o; rw [if_pos e]; exact hb
     ·rw [if_neg e] at hb; exact hle0.M b o hb
    ·replace hb:(if b=l then some (.loop rec) else E5.M b)=some o:=hb
     split at hb
     ·rename_i e; exact .inr (.inr e)
     ·rename_i e
      rcases hs5.ok.heap.ext b o hb with h | h
      ·replace h:(if b=l then some busy else E0.M b)=some o:=h
       rw [if_neg e] at h
       exact .inl (by show (if b=l then some (.loop rec) else E0.M b)=some o; rw [if_neg e]; exact h)
      ·exact .inr h
   let ko:=s.hout.map (·.1)
   let F:Env:={ F0 with blk:=fun j=>if j ∈ ko then F0.blk j else E2.blk j,hdr:=fun j=>if j ∈ ko then F0.hdr j else E2.hdr j }
   have hren:Rn [] ko F0 F:=⟨fun b o h=>h,rfl,fun c hc=>⟨if_pos hc,if_pos hc⟩⟩
   have hin0:∀ j k,E2.blk j=some k->j ∈ ko->F0.blk j=some k:=by
    intro j k hj hjo
    by_cases hi:j ∈ ks
    ·exact hle0.blk j k (by show (if j ∈ ks then E2.blk j else none)=some k; rw [if_pos hi]; exact hj)
    ·obtain ⟨q,hq,rfl⟩:=List.mem_map.1 hjo
     have:=(hfresh q hq (fun r hr e=>hi (by rw [← e]; exact List.mem_map_of_mem (f:=fun x:Nat × OB=>x.1) hr))).1
     rw [this] at hj; cases hj
   have hin1:∀ j u,E2.hdr j=some u->j ∈ ko->F0.hdr j=some u:=by
    intro j u hj hjo
    by_cases hi:j ∈ ks
    ·exact hle0.hdr j u (by show (if j ∈ ks then E2.hdr j else none)=some u; rw [if_pos hi]; exact hj)
    ·obtain ⟨q,hq,rfl⟩:=List.mem_map.1 hjo
     have:=(hfresh q hq (fun r hr e=>hi (by rw [← e]; exact List.mem_map_of_mem (f:=fun x:Nat × OB=>x.1) hr))).2
     rw [this] at hj; cases hj
   have lF:E2.le F:=by
    refine ⟨fun b o hb=>hle0.M b o hb,fun j k hj => ?_,fun j u hj => ?_,hle0.fns⟩
    ·show (if j ∈ ko then F0.blk j else E2.blk j)=some k
     split
     ·exact hin0 j k hj ‹_›
     ·exact hj
    ·show (if j ∈ ko then F0.hdr j else E2.hdr j)=some u
     split
     ·exact hin1 j u hj ‹_›
     ·exact hj
   refine ⟨.bool true,F,rfl,?_,by rw [hres]; exact .lit _,fun j hj => ?_⟩
   ·refine ⟨hok6.os,hok6.tape,hok6.output,hok6.size,fun x hx=>hok6.pres x hx,fun x o h=>hok6.mem x o h,lF,fun x o h=>hok6.ext x o h,fun i ob hi => ?_,fun i j y hij hi hj hiy hjy => ?_⟩
    ·have hm:=Heap.of_mem hi
     have hc:i ∈ ko:=List.mem_map_of_mem (f:=fun x:Nat × OB=>x.1) hm
     have:=rnB_own (C:=C3) (C':=calleeCtx P E2 w s.hin) hren (fun _ h=>h) (fun _ h=>h) hc (o4 _ hm) (hok6.own i ob (hoIn_mem hho _ hm))
     rw [rnB_nil] at this
     exact this
    ·have get:∀ i,Heap.of s.hout i ≠ none->F.blk i=some y->Heap.of st5.hp i ≠ none/\F0.blk i=some y:=by
      intro i hi hiy
      cases e:Heap.of s.hout i with
      | none=>exact absurd e hi
      | some ob =>
       have hm:=Heap.of_mem e
       have hc:i ∈ ko:=List.mem_map_of_mem (f:=fun x:Nat × OB=>x.1) hm
       refine ⟨by rw [hoIn_mem hho _ hm]; simp,?_⟩
       replace hiy:(if i ∈ ko then F0.blk i else E2.blk i)=some y:=hiy
       rw [if_pos hc] at hiy; exact hiy
     obtain ⟨n1,k1⟩:=get i hi hiy
     obtain ⟨n2,k2⟩:=get j hj hjy
     exact hok6.sep i j y hij n1 n2 k1 k2
   ·have hno:j ∉ ko:=fun h=>by
     obtain ⟨q,hq,e⟩:=List.mem_map.1 h
     exact hj q hq e
    exact ⟨if_neg hno,if_neg hno⟩
def RngK (C:Ctx) (nt:Nat) (hp:List (Nat × OB)) (nx:Nat):AX->ASt->Prop
 | .exit _,_=>False
 | _,st => ∃ st2,Ent C nt st st2/\hoIn st2.hp hp/\st2.nx<=nx
theorem old_cell {w:World} {o1 o2:Obj} {k:Nat} (h:k < w.heap.size):((w.alloc o1).alloc o2).heap[k]? = w.heap[k]? := by
 rw [(World.grownBy_alloc (w.alloc o1) o2 none).block k (by simp; omega) (by simp)]
 exact (World.grownBy_alloc w o1 none).block k h (by simp)
theorem swp_rangeM {C:Ctx} {nt:Nat} {K:AX->ASt->Prop} {st:ASt} {g:Operand} {p:Tmp} {assign body:Code} {gf:FuncId} {caps:List AV} {fn:Func} {c:Code}
  (hp2:List (Nat × OB)) (nx2 kf N:Nat) (kt:List Nat) (R:CallSpec->Prop) (hro:C.ro=none) (hdf:C.df=true) (hg:opAV (look st.tm) g = .mth gf caps) (hf:C.P.funcs[gf]? = some fn) (hb:fn.body=some c) (hrs:fn.results = #[]) (hcall:Callable C.P gf)
  (hn:2<=fn.ntmps) (hp:p < nt) (hno:((kt.all fun t=>noFn (look st.tm t)) && (st.hp.all fun q=>obNoFn q.2) && hp2.all fun q=>obNoFn q.2)=true)
  (hR:∀ s,R s->rndOK s (kt.map fun t=>(t,look st.tm t)) N=true)
  (hit:∀ C':Ctx,C'.P=C.P->(∀ s,R s -> ∀ u,C'.E0.fns kf u->FnIO C.P C'.E0 u s)->(∀ j,st.nx<=j->C'.E0.blk j=none/\C'.E0.hdr j=none)->SWP C' fn.ntmps c (RngK C' fn.ntmps hp2 nx2) ⟨argsTm [.rp caps,.fn kf] 0,st.hp,st.nx⟩)
  (hbody:∀ s,R s->s.pre -> ∀ C':Ctx,C'.P=C.P->(∀ j,N<=j->C'.E0.blk j=none/\C'.E0.hdr j=none)->SWP C' nt assign (AsgK C.P N nt body s.hout) ⟨(p,s.args.headD .any) :: (kt.map fun t=>(t,look st.tm t)),s.hin,N⟩)
  (hk:K .normal ⟨st.tm,hp2,nx2⟩):SWP C nt (.rangeFunc g #[p] assign body) K st:=by
 intro E w a hs
 simp only [Bool.and_eq_true] at hno
 obtain ⟨⟨hnot,hnoh⟩,hnoh2⟩:=hno
 rw [List.all_eq_true] at hnot hnoh hnoh2
 have hgr:=opAV_rel hs.ok.tm g
 simp only at hgr
 rw [hg] at hgr
 generalize hge:a.eval g=uf at hgr
 cases hgr with
 | mth b0 off0 hm0 hr0 =>
 rename_i us
 refine wpIn_rangeFunc ?_
 intro fnid _
 have hh:=hs.ok.heap
 let D:=w.heap.size
 let rec':Loop:={ state := .ready,pending:=none,fn:=fnid,tmps:=a.tmps,params := #[p],assign,body,defers:=D }
 let W1:World:=(w.alloc (.deferred (some []))).alloc (.loop rec')
 let yv:Value := .func (.yield (D + 1)) #[] #[]
 let E':Env:={ E with M:=fun b=>if b=D then some (.deferred (some [])) else if b=D + 1 then some (.loop rec') else E.M b }
 let E1:Env:=E'.setFns (fun k u=>k=kf/\u=yv)
 let C1:Ctx:=⟨C.P,C.w0,E1,C.avail,C.hA,none,false⟩
 have hMlt:∀ b o,E.M b=some o->b < D:=fun b o h=>(Array.getElem?_eq_some_iff.1 (hh.mem b o h)).1
 have hE'M:∀ b,b < D->E'.M b=E.M b:=fun b hb=>by
  show (if b=D then some (.deferred (some [])) else if b=D + 1 then some (.loop rec') else E.M b)=E.M b
  rw [if_neg (by omega),if_neg (by omega)]
 have hMD:E'.M D=some (.deferred (some [])):=if_pos rfl
 have hML:E'.M (D + 1)=some (.loop rec'):=by
  show (if D + 1=D then some (.deferred (some [])) else if D + 1=D + 1 then some (.loop rec') else E.M (D + 1))=_
  rw [if_neg (by omega),if_pos rfl]
 have leE:E.le E':=⟨fun b o h=>by rw [hE'M b (hMlt b o h)]; exact h,fun _ _ h=>h,fun _ _ h=>h,rfl⟩
 have hWD:W1.heap[D]? = some (.deferred (some [])):=(World.grownBy_alloc (w.alloc _) _ none).block D (by simp [D]) (by simp) |>.trans (World.alloc_heap_new w _)
 have hWL:W1.heap[D + 1]? = some (.loop rec'):=by
  have:=World.alloc_heap_new (w.alloc (.deferred (some []))) (.loop rec')
  rwa [World.size_alloc] at this
 have hok1:HeapOK C1 E1 (Heap.of st.hp) W1:=by
  refine ⟨hh.os,hh.tape,hh.output,?_,fun b hb => ?_,fun b o hb => ?_,Env.le.refl _,fun b o hb => .inl hb,fun i ob hi => ?_,hh.sep⟩
  ·show C.w0.heap.size<=((w.alloc _).alloc _).heap.size
   simp only [World.size_alloc]
   exact Nat.le_trans hh.size (by omega)
  ·have hlt:b < w.heap.size:=Nat.lt_of_not_le fun hle=>hb (C.hA b (Nat.le_trans hh.size hle))
   rw [old_cell hlt]; exact hh.pres b hb
  ·replace hb:(if b=D then some (.deferred (some [])) else if b=D + 1 then some (.loop rec') else E.M b)=some o:=hb
   split at hb
   ·rename_i e; rw [e,hWD]; exact hb
   ·split at hb
    ·rename_i e; rw [e,hWL]; exact hb
    ·rw [old_cell (hMlt b o hb)]; exact hh.mem b o hb
  ·have hnf:=hnoh _ (Heap.of_mem hi)
   have ho:=hh.own i ob hi
   refine ho.move (C':=C1) (E':=E1) (.inr hnf) (fun _ _ h=>h) (fun b o h=>leE.M b o h) rfl (fun _ h=>h) (fun k hk=>old_cell (OwnOB.blk_lt hh.mem ho hk)) (fun k hk hm => ?_) (fun o cs us hr=>⟨⟨fun t e => ?_,fun t sz n f j e => ?_⟩,fun e => ?_⟩)
   ·show E'.M k=none
    rw [hE'M k (OwnOB.blk_lt hh.mem ho hk)]; exact hm
   ·have e':ob = .cells t cs:=e
    rw [e'] at hnf
    exact (hr.mono leE).setFns _ (fun _=>hnf)
   ·have e':ob = .vecx t sz n f j cs:=e
    rw [e'] at hnf
    exact (hr.mono leE).setFns _ (fun _=>hnf)
   ·exact (hr.mono leE).setFns _ (fun e'=>by rw [e] at e'; cases e')
 let all:List Value:=[.pointer (some ⟨b0,off0,none⟩),yv]
 have htm1:∀ t,Rel E1 true (look (argsTm [.rp caps,.fn kf] 0) t) ((all.toArray ++ Array.replicate (fn.ntmps - all.toArray.size) undef).getD t undef):=by
  intro t
  rw [look_args,if_pos (Nat.zero_le _),Nat.sub_zero]
  rcases Nat.lt_or_ge t all.length with ht | ht
  ·have h1:(all.toArray ++ Array.replicate (fn.ntmps - all.toArray.size) undef).getD t undef=all.getD t undef:=by
    simp only [Array.getD_eq_getD_getElem?,List.getD_eq_getElem?_getD]
    rw [Array.getElem?_append_left (by simpa using ht)]
    simp
   rw [h1]
   cases t with
   | zero=>exact ((Rel.rp (o:=true) b0 off0 hm0 hr0).mono leE).setFns _ (fun _=>rfl)
   | succ t =>
    cases t with
    | zero=>exact .fn kf ⟨rfl,rfl⟩
    | succ t=>exact .any _
  ·rw [List.getD_eq_getElem?_getD,List.getElem?_eq_none (by simp only [List.length_cons]; simp only [all,List.length_cons] at ht; omega)]
   exact .any _
 have hsat1:Sat C1 E1 fn.ntmps ⟨argsTm [.rp caps,.fn kf] 0,st.hp,st.nx⟩ W1 { tmps:=all.toArray ++ Array.replicate (fn.ntmps - all.toArray.size) undef,defers:=[] } :=
  ⟨⟨hok1,htm1,⟨fun _=>rfl,trivial⟩,by simp [all]; omega⟩,hs.fresh⟩
 have hfn:∀ s,R s -> ∀ u,C1.E0.fns kf u->FnIO C.P C1.E0 u s:=by
  rintro s hRs u ⟨_,rfl⟩
  refine round_io (E1:=E1) (l:=D + 1) (rec:=rec') (a:=a) (tm:=kt.map fun t=>(t,look st.tm t)) N hML rfl rfl rfl rfl rfl rfl hs.ok.size hp (fun t => ?_) (hR s hRs) (hbody s hRs)
  have hkeep:noFn (look (kt.map fun t=>(t,look st.tm t)) t)=true:=look_all (p:=noFn) rfl (by rw [List.all_eq_true]; intro q hq; obtain ⟨t,ht,rfl⟩:=List.mem_map.1 hq; exact hnot t ht) t
  exact ((look_map hs.ok.tm kt t).mono leE).setFns _ (fun _=>hkeep)
 have hsw:=hit C1 rfl hfn (fun j hj=>hs.fresh j hj) E1 W1 _ hsat1
 have hcalls:Calls C.P gf all.toArray W1 (rangePost C.F 0 C.P (D + 1) (fun e a' w' => ∃ x E' st',e=x.toExit/\Sat C E' nt st' w' a'/\K x st') { a with defers:={ target := .collected D,args := #[] } :: a.defers }):=by
  refine calls_of_wp hf hb (wp_mono (wpIn_wide.1 hsw) ?_)
  rintro e a2 w2 ⟨x,E2,st2,rfl,hs2,hk2⟩
  have fin:(∃ st3,Ent C1 fn.ntmps st2 st3/\hoIn st3.hp hp2/\st3.nx<=nx2)->a2.defers = [] /\ ∃ v,(results fn a2.tmps).run C.P w2 = .ok v w2/\rangePost C.F 0 C.P (D + 1) (fun e a' w' => ∃ x E' st',e=x.toExit/\Sat C E' nt st' w' a'/\K x st') { a with defers:={ target := .collected D,args := #[] } :: a.defers } (.returned v) w2:=by
   rintro ⟨st3,hent,hho,hnx⟩
   obtain ⟨E3,hs3⟩:=hent E2 w2 a2 hs2
   refine ⟨hs2.ok.defers.1 rfl,_,results_run (us:=[]) (by rw [hrs]; rfl),?_⟩
   have h3:=hs3.ok.heap
   have hL3:E3.M (D + 1)=some (.loop rec'):=h3.le.M _ _ hML
   have hD3:E3.M D=some (.deferred (some [])):=h3.le.M _ _ hMD
   have hend:=run_endLoop (P:=C.P) (h3.mem _ _ hL3) (by simp [rec'])
   refine ⟨none,_,hend,.normal,?_⟩
   let E4:Env:={ E3 with M:=fun b=>if b=D + 1 then none else E3.M b,fns:=E.fns }
   have hlE:E.leC E4:=⟨fun b o hb _=>by
     have hlt:=hMlt b o hb
     show (if b=D + 1 then none else E3.M b)=some o
     rw [if_neg (by omega)]
     exact h3.le.M b o (by show E'.M b=some o; rw [hE'M b hlt]; exact hb),fun b k hb=>h3.le.blk b k hb,fun b u hb=>h3.le.hdr b u hb,rfl⟩
   have hleC0:C.E0.le E4:=⟨fun b o hb=>by
     have hb':=hh.le.M b o hb
     have hlt:=hMlt b o hb'
     show (if b=D + 1 then none else E3.M b)=some o
     rw [if_neg (by omega)]
     exact h3.le.M b o (by show E'.M b=some o; rw [hE'M b hlt]; exact hb'),fun b k hb=>hlE.blk b k (hh.le.blk b k hb),fun b u hb=>hlE.hdr b u (hh.le.hdr b u hb),hh.le.fns⟩
   let E3':Env:={ E3 with M:=fun b=>if b=D + 1 then none else E3.M b }
   let C2:Ctx:=⟨C.P,C.w0,{ E1 with M:=fun b=>if b=D + 1 then none else E1.M b },C.avail,C.hA,none,false⟩
   have h4:HeapOK C2 E3' (Heap.of st3.hp) (w2.putObj (D + 1) (.loop { rec' with state := .exhausted })):=by
    refine h3.putL (C2:=C2) (m:=none) hL3 rfl (.inl rfl) rfl rfl rfl rfl rfl rfl (fun _ h=>h) (fun b hb => ?_) ⟨fun b o hb => ?_,h3.le.blk,h3.le.hdr,h3.le.fns⟩ (fun b o hb => ?_)
    ·have hlt:b < C.w0.heap.size:=Nat.lt_of_not_le fun hle=>hb (C.hA b hle)
     have hsz:=hh.size
     rw [World.putObj_heap_other (by omega)]
     exact h3.pres b hb
    ·replace hb:(if b=D + 1 then none else E1.M b)=some o:=hb
     show (if b=D + 1 then none else E3.M b)=some o
     split at hb
     ·cases hb
     ·rename_i e; rw [if_neg e]; exact h3.le.M b o hb
    ·replace hb:(if b=D + 1 then none else E3.M b)=some o:=hb
     split at hb
     ·cases hb
     ·rename_i e
      rcases h3.ext b o hb with h | h
      ·exact .inl (by show (if b=D + 1 then none else E1.M b)=some o; rw [if_neg e]; exact h)
      ·exact .inr h
   have h5:HeapOK C E4 (Heap.of hp2) (w2.putObj (D + 1) (.loop { rec' with state := .exhausted })):=by
    refine ⟨h4.os,h4.tape,h4.output,h4.size,h4.pres,h4.mem,hleC0,fun b o hb => ?_,fun i ob hi => ?_,fun i j k hij hi hj h1 h2 => ?_⟩
    ·rcases h4.ext b o hb with h | h
     ·replace h:(if b=D + 1 then none else E'.M b)=some o:=h
      split at h
      ·cases h
      ·rename_i e
       by_cases e2:b=D
       ·exact .inr (C.hA b (by rw [e2]; exact hh.size))
       ·replace h:(if b=D then some (.deferred (some [])) else if b=D + 1 then some (.loop rec') else E.M b)=some o:=h
        rw [if_neg e2,if_neg e] at h
        exact hh.ext b o h
     ·exact .inr h
    ·have hm:=Heap.of_mem hi
     have hnf:=hnoh2 _ hm
     refine (h4.own i ob (hoIn_mem hho _ hm)).move (C':=C) (E':=E4) (.inr hnf) (fun _ _ h=>h) (fun _ _ h=>h) rfl (fun _ h=>h) (fun _ _=>rfl) (fun _ _ h=>h) (fun o cs us hr=>⟨⟨fun t e => ?_,fun t sz n f j e => ?_⟩,fun e => ?_⟩)
     ·have e':ob = .cells t cs:=e
      rw [e'] at hnf
      exact hr.setFns E.fns (fun _=>hnf)
     ·have e':ob = .vecx t sz n f j cs:=e
      rw [e'] at hnf
      exact hr.setFns E.fns (fun _=>hnf)
     ·exact hr.setFns E.fns (fun e'=>by rw [e] at e'; cases e')
    ·have get:∀ i,Heap.of hp2 i ≠ none->Heap.of st3.hp i ≠ none:=fun i h=>by
      cases e:Heap.of hp2 i with
      | none=>exact absurd e h
      | some ob=>rw [hoIn_mem hho _ (Heap.of_mem e)]; simp
     exact h4.sep i j k hij (get i hi) (get j hj) h1 h2
   have hC0D:C.E0.M D=none:=by
    cases e:C.E0.M D with
    | none=>rfl
    | some o=>have:=hMlt D o (hh.le.M D o e); omega
   have hD4:E4.M D=some (.deferred (some [])):=by
    show (if D=D + 1 then none else E3.M D)=_
    rw [if_neg (by omega)]; exact hD3
   refine ⟨E4,⟨st.tm,hp2,nx2⟩,rfl,⟨⟨h5,fun t=>(hs.ok.tm t).monoC hlE,⟨(fun h=>by rw [hdf] at h; cases h),⟨D,rfl,hD4,hC0D,(fun d' hd' e => ?_)⟩,hs.ok.defers.2.monoM (fun b o hb => ?_)⟩,hs.ok.size⟩,fun j hj=>hs3.fresh j (Nat.le_trans hnx hj)⟩,hk⟩
   ·obtain ⟨D',h1,h2⟩:=hs.ok.defers.2.mem d' hd'
    rw [h1] at e
    have h3:D'=D:=by injection e with e1 _; injection e1
    have:=hMlt D' _ h2
    omega
   ·have hlt:=hMlt b o hb
    show (if b=D + 1 then none else E3.M b)=some o
    rw [if_neg (by omega)]
    exact h3.le.M b o (by show E'.M b=some o; rw [hE'M b hlt]; exact hb)
  cases x with
  | normal=>exact fin hk2
  | ret=>exact fin hk2
  | exit id=>exact hk2.elim
 refine ⟨D + 1,[{ target := .collected D,args := #[] }],W1,{ target := .fn (.func gf) #[],args := #[.pointer (some ⟨b0,off0,none⟩),yv] },W1,gf,#[.pointer (some ⟨b0,off0,none⟩),yv] ++ #[],W1,?_,?_,?_,?_,(fun h=>by cases h),?_⟩
 ·show (Instr.enterLoop fnid a.tmps #[p] assign body C.ro).run C.P w=_
  rw [hro]; exact run_enterLoop_outer _ _ _ _ _
 ·simp only [resolve,hge]
  simp [go_sem]
  rfl
 ·intro f' hf'; trivial
 ·have eg:=hcall
  simp [invoke,go_sem,eg _ _]
 ·have : #[.pointer (some ⟨b0,off0,none⟩),yv] ++ #[]=all.toArray:=by simp [all]
  rw [this]
  exact callsIn_F hcalls
structure RangeH where
 J:Type
 ok:J->Prop
 Y:J->CallSpec
 hp:List (Nat × OB)
 N:Nat:=6000
theorem hoIn_self:∀ {l m:List (Nat × OB)},noDup ((m ++ l).map (·.1))=true->hoIn (m ++ l) l:=by
 intro l
 induction l with
 | nil=>intro _ _; trivial
 | cons p r ih =>
  intro m h
  refine ⟨?_,by have:=ih (m:=m ++ [p]) (by simpa using h); simpa using this⟩
  have hn:=noDup_nodup h
  clear ih
  induction m with
  | nil=>rw [List.nil_append,Heap.of_cons,if_pos rfl]
  | cons q m ihm =>
   simp only [List.cons_append,List.map_cons,List.nodup_cons] at hn
   rw [List.cons_append,Heap.of_cons,if_neg]
   ·exact ihm (by simp only [List.cons_append,List.map_cons,noDup,Bool.and_eq_true] at h; exact h.2) hn.2
   ·intro e
    exact hn.1 (by rw [e,List.map_append]; exact List.mem_append_right _ (by simp))
section
variable {C:Ctx} {nt:Nat} {st:ASt}
theorem rnd_end {hout:List (Nat × OB)} (nx:Nat) (h:Ent C nt st ⟨[],hout,nx⟩) (hd:noDup (hout.map (·.1))=true):RndK C nt hout .normal st:=⟨_,h,hoIn_self (m:=[]) hd⟩
theorem rng_ret {hp:List (Nat × OB)} {nx:Nat} (h:Ent C nt st ⟨[],hp,nx⟩) (hd:noDup (hp.map (·.1))=true):RngK C nt hp nx .ret st:=⟨_,h,hoIn_self (m:=[]) hd,Nat.le_refl _⟩
end
end Go.Ab
namespace Go.Ab
open Go Go.RowKit Go.Proofs
universe u
theorem tv:True:=trivial
theorem An {a b:Prop} (x:a) (y:b):a/\b:=⟨x,y⟩
def tk:Nat->Prop->Prop
 | 0,q=>q
 | n + 1,q=>True/\tk n q
theorem Ak:∀ (n:Nat) {q:Prop},q->tk n q
 | 0,_,h=>h
 | n + 1,_,h=>⟨trivial,Ak n h⟩
theorem zr {α:Sort u} (a:α):a=a:=rfl
theorem ci {a b:Int} (h:a=b):iv a=iv b:=congrArg iv h
theorem cb {a b:Bool} (h:a=b):bv a=bv b:=congrArg bv h
def qOf:Option (Prop × ASt)->Prop
 | some r=>r.1
 | none=>False
def sOf (st:ASt):Option (Prop × ASt)->ASt
 | some r=>r.2
 | none=>st
section
variable {w0:World} {E0:Env} {av:Nat->Prop} {hA:∀ b,w0.heap.size<=b->av b} {nt:Nat} {K:AX->ASt->Prop} {st:ASt} {id:Nat} {l:List Oper} {draw:Bool} {ro:Option Nat} {df:Bool}
theorem zC (cs:List (Nat × CallSpec)) (kt kh:List Nat) {q:Prop} (hq:q) (hk:K .normal (sOf st (regRun Tryz.prog E0 T0 nt l draw cs kt kh st))) (h:qOf (regRun Tryz.prog E0 T0 nt l draw cs kt kh st)=q:=by kernel_rfl) :
  SWP ⟨Tryz.prog,w0,E0,av,hA,ro,df⟩ nt (.region id l.toArray draw) K st:=by
 rw [← h] at hq
 cases he:regRun Tryz.prog E0 T0 nt l draw cs kt kh st with
 | none=>rw [he] at hq; exact hq.elim
 | some x=>rw [he] at hk hq; exact swp_region T0_ok mixed he hq hk
theorem zR (kt kh:List Nat) {q:Prop} (hq:q) (hk:K .normal (sOf st (regRun Tryz.prog E0 T0 nt l draw [] kt kh st))) (h:qOf (regRun Tryz.prog E0 T0 nt l draw [] kt kh st)=q:=by kernel_rfl) :
  SWP ⟨Tryz.prog,w0,E0,av,hA,ro,df⟩ nt (.region id l.toArray draw) K st:=zC [] kt kh hq hk h
end
section
variable {C:Ctx} {nt:Nat} {K:AX->ASt->Prop} {st st2:ASt}
theorem zE (hE0:∀ j,C.E0.blk j=none/\C.E0.hdr j=none) (bs:List Nat) (mp:List (Nat × Src)) (kt kh:List Nat) {q:Prop} (hq:q) (hb:entB 0 st2 bs mp=true:=by kernel_rfl) (he:entK st st2 bs mp kt kh=q:=by kernel_rfl):Ent C nt st st2:=ent_q hE0 bs mp kt kh q hb he hq
theorem zEp (hE0:∀ j,1<=j->C.E0.blk j=none/\C.E0.hdr j=none) (bs:List Nat) (mp:List (Nat × Src)) (kt kh:List Nat) {q:Prop} (hq:q) (hb:entB 1 st2 bs mp=true:=by kernel_rfl) (he:entK st st2 bs mp kt kh=q:=by kernel_rfl):Ent C nt st st2:=ent_n 1 hE0 bs mp kt kh q hb he hq
theorem zEn (N:Nat) (hE0:∀ j,N<=j->C.E0.blk j=none/\C.E0.hdr j=none) (bs:List Nat) (mp:List (Nat × Src)) (kt kh:List Nat) {q:Prop} (hq:q) (hb:entB N st2 bs mp=true:=by kernel_rfl) (he:entK st st2 bs mp kt kh=q:=by kernel_rfl):Ent C nt st st2:=ent_n N hE0 bs mp kt kh q hb he hq
def loopZ (C:Ctx) (nt:Nat) (A:LoopAnn) (x:A.X) (K:AX->ASt->Prop):AX->ASt->Prop
 | .normal,st => ∃ x',Ent C nt st (A.S x')/\A.I x'/\A.mu x' < A.mu x
 | e,st=>K e st
theorem zL {c:Code} (A:LoopAnn) (h0:Ent C nt st (A.S A.x0)) (hI:A.I A.x0) (hb:∀ x,A.I x->SWP C nt c (loopZ C nt A x K) (A.S x)):SWP C nt (.loop c) K st :=
 swp_loop A.S A.I A.mu A.x0 h0 hI fun x hx=>swp_mono (hb x hx) fun e s h=>by cases e <;> exact h
theorem zn {A:LoopAnn} {x:A.X} (h:Ent C nt st (A.S (A.nx x))) (hI:A.I (A.nx x)) (hm:A.mu (A.nx x) < A.mu x):∃ x',Ent C nt st (A.S x')/\A.I x'/\A.mu x' < A.mu x:=⟨A.nx x,h,hI,hm⟩
theorem zI {c:Operand} {x y:Code} (b:Bool) (h1:b=true->SWP C nt x K st) (h2:b=false->SWP C nt y K st) (hc:opAV (look st.tm) c = .lit (.bool b):=by kernel_rfl):SWP C nt (.cond c x y) K st:=swp_cond b hc h1 h2
theorem zf {c:Operand} {x y:Code} (h1:SWP C nt y K st) (hc:opAV (look st.tm) c = .lit (.bool false):=by kernel_rfl):SWP C nt (.cond c x y) K st:=swp_cond false hc (fun h=>by cases h) (fun _=>h1)
theorem zT {T:Tab} {rs:List ResultVar} {res:AV} (bs:List Nat) {q:Prop} (hq:q) (he:retQ T rs st res bs=q:=by kernel_rfl):RetK T rs res .ret st:=ret_q bs q he hq
theorem zP {T:Tab} {rs:List ResultVar} {res:AV} {t:TypeId} {cs':List AV} (cs:List AV) {q:Prop} (hq:q) (hc:cs=cs') (he:retQ T rs st res []=q:=by kernel_rfl) (hH:Heap.of st.hp 0=some (.cells t cs):=by kernel_rfl):RetP T rs res t cs' .ret st:=⟨by rw [he]; exact hq,by rw [hH,hc]⟩
theorem zO {T:Tab} {rs:List ResultVar} {res:AV} {hout:List (Nat × OB)} (st2:ASt) (he:Ent C nt st st2) {q:Prop} (h:q) (hq:retO T rs st2 res hout=q:=by kernel_rfl):RetO C nt T rs res hout .ret st:=ret_o st2 he q hq h
theorem zQ {T:Tab} {rs:List ResultVar} {res:AV} {hout:List (Nat × OB)} (st2:ASt) (he:Ent C nt st st2) {q:Prop} (h:q) (hq:retO T rs st2 res hout=q:=by kernel_rfl):RetO C nt T rs res hout .normal st:=norm_o st2 he q hq h
def fzS (b:Nat) (st:ASt):ASt :=
 match Heap.of st.hp b with
 | some (.cells _ cs)=>⟨st.tm.map (fun p=>(p.1,subP b cs p.2)),st.hp.filter (fun p=>p.1 != b),st.nx⟩
 | _=>st
def fzOK (b:Nat) (st:ASt):Bool :=
 match Heap.of st.hp b with
 | some (.cells _ cs)=>cs.all capOK
 | _=>false
theorem zF (b:Nat) (h:fzOK b st=true:=by kernel_rfl):Ent C nt st (fzS b st):=by
 unfold fzOK at h
 split at h
 ·rename_i t cs e
  refine ent_fz b t cs _ e h ?_
  unfold fzS
  rw [e]
 ·cases h
end
section
variable {C:Ctx} {nt:Nat} {st:ASt}
theorem zN {hout:List (Nat × OB)} (nx:Nat) (h:Ent C nt st ⟨[],hout,nx⟩) (hd:noDup (hout.map (·.1))=true:=by kernel_rfl):RndK C nt hout .normal st:=rnd_end nx h hd
theorem zM {hp:List (Nat × OB)} {nx:Nat} (h:Ent C nt st ⟨[],hp,nx⟩) (hd:noDup (hp.map (·.1))=true:=by kernel_rfl):RngK C nt hp nx .ret st:=rng_ret h hd
end
theorem zGm {w0:World} {E0:Env} {av:Nat->Prop} {hA:∀ b,w0.heap.size<=b->av b} {nt:Nat} {K:AX->ASt->Prop} {st:ASt} {g:Operand} {p:Tmp} {assign body:Code} {gf:FuncId} {fn:Func} {c:Code}
  (h:RangeH) (n1 nx2 kf:Nat) (kt:List Nat) (caps:List AV) (hf:Tryz.prog.funcs[gf]? = some fn) (hcall:Callable Tryz.prog gf) (hb:fn.body=some c)
  (hit:∀ C':Ctx,C'.P=Tryz.prog->(∀ j,h.ok j -> ∀ u,C'.E0.fns kf u->FnIO Tryz.prog C'.E0 u (h.Y j))->(∀ j,n1<=j->C'.E0.blk j=none/\C'.E0.hdr j=none)->SWP C' fn.ntmps c (RngK C' fn.ntmps h.hp nx2) ⟨argsTm [.rp caps,.fn kf] 0,st.hp,st.nx⟩)
  (hbody:∀ j,h.ok j->(h.Y j).pre -> ∀ C':Ctx,C'.P=Tryz.prog->(∀ j,h.N<=j->C'.E0.blk j=none/\C'.E0.hdr j=none)->SWP C' nt assign (AsgK Tryz.prog h.N nt body (h.Y j).hout) ⟨(p,(h.Y j).args.headD .any) :: (kt.map fun t=>(t,look st.tm t)),(h.Y j).hin,h.N⟩)
  (hk:K .normal ⟨st.tm,h.hp,nx2⟩) (hnx:st.nx=n1:=by kernel_rfl) (hrs:fn.results = #[]:=by rfl) (hg:opAV (look st.tm) g = .mth gf caps:=by kernel_rfl) (hn:Nat.ble 2 fn.ntmps=true:=by kernel_rfl) (hp:Nat.ble (p + 1) nt=true:=by kernel_rfl)
  (hno:((kt.all fun t=>noFn (look st.tm t)) && (st.hp.all fun q=>obNoFn q.2) && h.hp.all fun q=>obNoFn q.2)=true:=by kernel_rfl) (hR:∀ j,rndOK (h.Y j) (kt.map fun t=>(t,look st.tm t)) h.N=true:=by (intro _; kernel_rfl)) :
  SWP ⟨Tryz.prog,w0,E0,av,hA,none,true⟩ nt (.rangeFunc g #[p] assign body) K st :=
 swp_rangeM h.hp nx2 kf h.N kt (fun s => ∃ j,h.ok j/\s=h.Y j) rfl rfl hg hf hb hrs hcall (Nat.le_of_ble_eq_true hn) (Nat.le_of_ble_eq_true hp) hno (by rintro s ⟨j,_,rfl⟩; exact hR j)
  (fun C' hC hY hE=>hit C' hC (fun j hj=>hY _ ⟨j,hj,rfl⟩) (by rw [hnx] at hE; exact hE)) (by rintro s ⟨j,hj,rfl⟩; exact hbody j hj) hk
end Go.Ab
namespace Go.Ab
theorem getD_lt {α:Type} (l:List α) (d:α) {i:Nat} (h:i < l.length):l.getD i d=l[i]:=by
 rw [List.getD_eq_getElem?_getD,List.getElem?_eq_getElem h]; rfl
theorem getD_ge {α:Type} (l:List α) (d:α) {i:Nat} (h:l.length<=i):l.getD i d=d:=by
 rw [List.getD_eq_getElem?_getD,List.getElem?_eq_none h]; rfl
theorem getD_mem {α:Type} (l:List α) (d:α) {i:Nat} (h:i < l.length):l.getD i d ∈ l:=by
 rw [getD_lt l d h]; exact List.getElem_mem h
theorem take_succ {α:Type} (l:List α) (d:α) {i:Nat} (h:i < l.length):l.take (i + 1)=l.take i ++ [l.getD i d]:=by
 rw [getD_lt l d h,List.take_add_one,List.getElem?_eq_getElem h]; rfl
theorem all_idx {α:Type} (l:List α) (d:α) (p:α->Bool) (h:∀ j,j < l.length->p (l.getD j d)=true):l.all p=true:=by
 rw [List.all_eq_true]
 intro x hx
 obtain ⟨j,hj,rfl⟩:=List.getElem_of_mem hx
 rw [← getD_lt l d hj]; exact h j hj
theorem idx_all {α:Type} {l:List α} (d:α) {p:α->Bool} (h:l.all p=true) {j:Nat} (hj:j < l.length):p (l.getD j d)=true:=by
 rw [List.all_eq_true] at h
 exact h _ (getD_mem l d hj)
theorem any_idx {α:Type} (l:List α) (d:α) (p:α->Bool) (h:∀ j,j < l.length->p (l.getD j d)=false):l.any p=false:=by
 rw [List.any_eq_false]
 intro x hx
 obtain ⟨j,hj,rfl⟩:=List.getElem_of_mem hx
 rw [← getD_lt l d hj,h j hj]; simp
theorem some_any {α:Type} (l:List α) (d:α) (p:α->Bool) {j:Nat} (hj:j < l.length) (h:p (l.getD j d)=true):l.any p=true:=by
 rw [List.any_eq_true]
 exact ⟨_,getD_mem l d hj,h⟩
theorem lt_succ_cases {P:Nat->Prop} {i:Nat} (h:∀ j,j < i->P j) (hi:P i):∀ j,j < i + 1->P j:=by
 intro j hj
 by_cases e:j=i
 ·subst e; exact hi
 ·exact h j (by omega)
theorem getD_append {α:Type} (l m:List α) (d:α) (i:Nat):(l ++ m).getD i d=if i < l.length then l.getD i d else m.getD (i - l.length) d:=by
 simp only [List.getD_eq_getElem?_getD,List.getElem?_append]
 split <;> rfl
theorem catF_eq {α:Type} (l m:List α) (d:α) (F:α->List AV) {n:Nat} {f g:Nat->List AV} (hn:n=l.length) (hf:∀ k,k < l.length->f k=F (l.getD k d)) (hg:∀ k,k < m.length->g k=F (m.getD k d)) {i:Nat} (hi:i < l.length + m.length):catF n f g i=F ((l ++ m).getD i d):=by
 unfold catF
 rw [getD_append,hn]
 split
 ·exact hf i ‹_›
 ·exact hg _ (by omega)
theorem catF_one {α:Type} (l:List α) (x:α) (d:α) (F:α->List AV) {n:Nat} {f:Nat->List AV} {cells dd:List AV} (hn:n=l.length) (hf:∀ k,k < l.length->f k=F (l.getD k d)) (hc:cells=F x) {i:Nat} (hi:i < l.length + 1):catF n f (fun j=>[cells].getD j dd) i=F ((l ++ [x]).getD i d):=by
 refine catF_eq l [x] d F hn hf (fun k hk => ?_) (by simpa using hi)
 have:k=0:=by simp at hk; omega
 subst this
 exact hc
end Go.Ab
namespace Go.Sh
structure Span where
 lo:Int
 hi:Int
 deriving DecidableEq,Inhabited
def within (n lo hi:Int):Bool:=decide (lo<=n) && decide (n<=hi)
def isIn (l:List Int) (n:Int):Bool:=l.any (fun x=>decide (x=n))
def sameInts (a b:List Int):Bool:=decide (a=b)
def isSpan (s:Span) (most:Int):Bool:=within s.hi 0 most && within s.lo 0 s.hi
def knownOf (so all:Int):Int:=if so=0 then 2 else if so=all then 1 else 3
def earlier:List Int->List Int->Bool
 | x :: xs,y :: ys=>if x=y then earlier xs ys else decide (x < y)
 | _,_=>false
theorem within_iff {n lo hi:Int}:within n lo hi=true ↔ lo<=n/\n<=hi:=by simp [within]
end Go.Sh
namespace Go.En
open Go Go.Ab Go.Sh
def aInts (l:List Int):AV := .sl 1 l.length (fun i=>[iv (l.getD i 0)])
def aIntss (l:List (List Int)):AV := .sl 1 l.length (fun i=>[aInts (l.getD i [])])
def cSpan (s:Span):List AV:=[iv s.lo,iv s.hi]
abbrev vSpan (s:Span):AV := .agg (cSpan s)
end Go.En
namespace Go.Ab
open Go Go.RowKit Go.Sh Go.En
abbrev big:Nat:=1125899906842624
def s80 (n lo hi:Int):CallSpec:={ args:=[iv n,iv lo,iv hi],res:=bv (within n lo hi) }
def s37 (l:List Int) (n:Int):CallSpec:={ args:=[aInts l,iv n],res:=bv (isIn l n),pre:=l.length<=big }
def h37 (l:List Int) (n:Int):Hint:={ X:=Nat,M:=fun i=>[(5,iv i)],I:=fun i=>i<=l.length/\isIn (l.take i) n=false,mu:=fun i=>l.length - i,x0:=(0:Nat),nx:=fun i=>i + 1 }
def s12 (a b:List Int):CallSpec:={ args:=[aInts a,aInts b],res:=bv (sameInts a b),pre:=a.length<=big }
def h12 (a b:List Int):Hint:={ X:=Nat,M:=fun i=>[(5,iv i)],I:=fun i=>i<=a.length/\a.take i=b.take i,mu:=fun i=>a.length - i,x0:=(0:Nat),nx:=fun i=>i + 1 }
def s53 (s:Span) (most:Int):CallSpec:={ args:=[vSpan s,iv most],res:=bv (isSpan s most) }
def s49 (so all:Int):CallSpec:={ args:=[iv so,iv all],res:=iv (knownOf so all) }
end Go.Ab
namespace Go.Ab
open Go Go.RowKit Go.Proofs Go.Sh Go.En
theorem w80 (n:Int) (lo:Int) (hi:Int)
  (o0:(bif decide (lo<=n) then decide (n<=hi) else false)=within n lo hi) :
  Triple Tryz.prog 80 (s80 n lo hi):=by
 refine triple_of Tryz.func80 rfl Tryz.call80 T0_ok _ rfl rfl rfl rfl (Nat.le_of_ble_eq_true (by kernel_rfl)) (fun _ _ _ _ h=>h) ?_
 intro _ C hC _ hE
 obtain ⟨P,w0,E0,av,hA,ro,df⟩:=C
 obtain ⟨rfl,rfl,rfl⟩:=hC
 refine swp_seq ?_
 refine zR [0,1,2] [] (Ak 1 tv) ?_
 refine swp_seq ?_
 refine zR [6] [] (Ak 4 (An (fun (y0:decide (lo<=n)=true)=>(An (Ak 1 tv) tv)) (An (fun (y1:decide (lo<=n)=true)=>(An (Ak 1 tv) tv)) (An (fun (y2:decide (lo<=n)=true)=>(An (An (fun (y3:decide (lo<=n)=true)=>y2) (An (fun (y4:decide (lo<=n)=true)=>y2) tv)) tv)) (An (An (fun (y5:decide (lo<=n)=true)=>y5) (fun (y6:decide (lo<=n)=false)=>tv)) (Ak 1 tv)))))) ?_
 refine swp_ret ?_
 exact zT [] (An (Ak 1 tv) (An (An (cb (o0)) (zr nilN)) (An (zr true) (An (zr true) (zr true)))))
theorem t80 (n lo hi:Int):Triple Tryz.prog 80 (s80 n lo hi):=by
 refine w80 n lo hi ?_
 unfold within; cases decide (lo<=n) <;> rfl
abbrev q0 (l:List Int) (P:Prop):Prop:=l.length<=big->P
abbrev q1 (l:List Int) (n:Int) (x0:Nat) (P:Prop):Prop:=x0<=l.length/\isIn (List.take x0 l) n=false->P
abbrev q2 (l:List Int) (n:Int) (x0:Nat) (P:Prop):Prop:=q1 l n x0 (decide ((x0:Int) < (↑(l.length):Int))=true->P)
theorem w37 (l:List Int) (n:Int)
 (o0:List.length l<=big->0=(↑0:Int))
 (o1:q0 l (0<=l.length/\isIn (List.take 0 l) n=false))
 (o2:q0 l (∀ (x0:Nat),q2 l n x0 (0<=(x0:Int))))
 (o3:q0 l (∀ (x0:Nat),q2 l n x0 ((x0:Int) < (↑(l.length):Int))))
 (o4:q0 l (∀ (x0:Nat),q2 l n x0 (decide (l.getD x0 0=n)=true->true=isIn l n)))
 (o5:q0 l (∀ (x0:Nat),q2 l n x0 (decide (l.getD x0 0=n)=false->inI ((x0:Int) + 1))))
 (o6:q0 l (∀ (x0:Nat),q2 l n x0 (decide (l.getD x0 0=n)=false->(x0:Int) + 1=(↑(x0 + 1):Int))))
 (o7:q0 l (∀ (x0:Nat),q2 l n x0 (decide (l.getD x0 0=n)=false->x0 + 1<=l.length/\isIn (List.take (x0 + 1) l) n=false)))
 (o8:q0 l (∀ (x0:Nat),q2 l n x0 (decide (l.getD x0 0=n)=false->l.length - (x0 + 1) < l.length - x0)))
 (o9:q0 l (∀ (x0:Nat),q1 l n x0 (decide ((x0:Int) < (↑(l.length):Int))=false->false=isIn l n))) :
  Triple Tryz.prog 37 (s37 l n):=by
 refine triple_of Tryz.func37 rfl Tryz.call37 T0_ok _ rfl rfl rfl rfl (Nat.le_of_ble_eq_true (by kernel_rfl)) (fun _ _ _ _ h=>h) ?_
 intro hpre C hC _ hE
 obtain ⟨P,w0,E0,av,hA,ro,df⟩:=C
 obtain ⟨rfl,rfl,rfl⟩:=hC
 refine swp_seq ?_
 refine zR [0,1] [] (Ak 1 tv) ?_
 refine swp_seq ?_
 refine swp_seq ?_
 refine zR [0,1,5] [] (Ak 1 tv) ?_
 refine swp_block ?_
 refine zL (Hint.ann (h37 l n) [(0,aInts l),(1,iv n)] [] 10016) (zE hE [] [] [0,1] [] (An (An (An (zr (aInts l)) (zr true)) (An (An (zr (iv n)) (zr true)) (An (An (ci (o0 hpre)) (zr nilN)) tv))) (Ak 1 (An (zr true) (zr true))))) (o1 hpre) (fun (x0:Nat) hx0 => ?_)
 refine swp_seq ?_
 refine swp_seq ?_
 refine zR [0,1,5,9] [] (Ak 4 tv) ?_
 refine zI (decide ((x0:Int) < (↑(l.length):Int))) (fun y1 => ?_) (fun y1 => ?_)
 ·refine swp_skip ?_
  refine swp_seq ?_
  refine swp_block ?_
  refine swp_seq ?_
  refine zR [0,1,5,17] [] (Ak 2 (An (An (o2 hpre x0 hx0 y1) (o3 hpre x0 hx0 y1)) (Ak 3 tv))) ?_
  refine zI (decide (l.getD x0 0=n)) (fun y2 => ?_) (fun y2 => ?_)
  ·refine swp_seq ?_
   refine zR [4] [] (Ak 1 tv) ?_
   refine swp_ret ?_
   exact zT [] (An (Ak 1 tv) (An (An (cb (o4 hpre x0 hx0 y1 y2)) (zr nilN)) (An (zr true) (An (zr true) (zr true)))))
  ·refine swp_skip ?_
   refine zR [0,1,5] [] (Ak 1 (An (o5 hpre x0 hx0 y1 y2) (Ak 1 tv))) ?_
   exact zn (zE hE [] [] [0,1] [] (An (An (An (zr (aInts l)) (zr true)) (An (An (zr (iv n)) (zr true)) (An (An (ci (o6 hpre x0 hx0 y1 y2)) (zr nilN)) tv))) (Ak 1 (An (zr true) (zr true))))) (o7 hpre x0 hx0 y1 y2) (o8 hpre x0 hx0 y1 y2)
 ·refine swp_exit ?_
  refine swp_seq ?_
  refine zR [4] [] (Ak 1 tv) ?_
  refine swp_ret ?_
  exact zT [] (An (Ak 1 tv) (An (An (cb (o9 hpre x0 hx0 y1)) (zr nilN)) (An (zr true) (An (zr true) (zr true)))))
theorem t37 (l:List Int) (n:Int):Triple Tryz.prog 37 (s37 l n):=by
 apply w37
 all_goals (try delta q0 q1 q2)
 case o1=>intro _; exact ⟨Nat.zero_le _,rfl⟩
 case o4 =>
  intro hp x hx h h2
  simp only [decide_eq_true_eq] at h
  exact (some_any l 0 _ (by omega) h2).symm
 case o7 =>
  intro hp x hx h h2
  simp only [decide_eq_true_eq] at h
  refine ⟨by omega,?_⟩
  rw [take_succ l 0 (by omega)]
  have h3:=hx.2
  unfold isIn at h3 ⊢
  rw [List.any_append,h3]; simpa using h2
 case o9 =>
  intro hp x hx h
  simp only [decide_eq_false_iff_not] at h
  have h3:=hx.2
  rw [List.take_of_length_le (by omega)] at h3
  exact h3.symm
 all_goals (try ((repeat intro _) <;> (try simp only [Bool.cond_true_left,Bool.cond_false_right,Bool.not_not,Bool.not_eq_true',Bool.not_eq_false',Bool.or_eq_true,Bool.or_eq_false_iff,Bool.and_eq_true,decide_eq_true_eq,decide_eq_false_iff_not,inI,big] at *) <;> first | (exact rfl) | omega | (exact ⟨Nat.zero_le _,fun j hj=>absurd hj (Nat.not_lt_zero j)⟩) | (simp_all; done) | (simp_all; omega)))
abbrev q3 (a:List Int) (P:Prop):Prop:=a.length<=big->P
abbrev q4 (a:List Int) (b:List Int) (P:Prop):Prop:=q3 a ((!decide ((↑(a.length):Int)=(↑(b.length):Int)))=false->P)
abbrev q5 (a:List Int) (b:List Int) (x1:Nat) (P:Prop):Prop:=x1<=a.length/\List.take x1 a=List.take x1 b->P
abbrev q6 (a:List Int) (b:List Int) (x1:Nat) (P:Prop):Prop:=q5 a b x1 (decide ((x1:Int) < (↑(a.length):Int))=true->P)
abbrev q7 (a:List Int) (b:List Int) (x1:Nat) (P:Prop):Prop:=q6 a b x1 ((!decide (a.getD x1 0=b.getD x1 0))=false->P)
theorem w12 (a:List Int) (b:List Int)
 (o0:q3 a ((!decide ((↑(a.length):Int)=(↑(b.length):Int)))=true->false=sameInts a b))
 (o1:q4 a b (0=(↑0:Int)))
 (o2:q4 a b (0<=a.length/\List.take 0 a=List.take 0 b))
 (o3:q4 a b (∀ (x1:Nat),q6 a b x1 (0<=(x1:Int))))
 (o4:q4 a b (∀ (x1:Nat),q6 a b x1 ((x1:Int) < (↑(a.length):Int))))
 (o5:q4 a b (∀ (x1:Nat),q6 a b x1 (0<=(x1:Int))))
 (o6:q4 a b (∀ (x1:Nat),q6 a b x1 ((x1:Int) < (↑(b.length):Int))))
 (o7:q4 a b (∀ (x1:Nat),q6 a b x1 ((!decide (a.getD x1 0=b.getD x1 0))=true->false=sameInts a b)))
 (o8:q4 a b (∀ (x1:Nat),q7 a b x1 (inI ((x1:Int) + 1))))
 (o9:q4 a b (∀ (x1:Nat),q7 a b x1 ((x1:Int) + 1=(↑(x1 + 1):Int))))
 (o10:q4 a b (∀ (x1:Nat),q7 a b x1 (x1 + 1<=a.length/\List.take (x1 + 1) a=List.take (x1 + 1) b)))
 (o11:q4 a b (∀ (x1:Nat),q7 a b x1 (a.length - (x1 + 1) < a.length - x1)))
 (o12:q4 a b (∀ (x1:Nat),q5 a b x1 (decide ((x1:Int) < (↑(a.length):Int))=false->true=sameInts a b))) :
  Triple Tryz.prog 12 (s12 a b):=by
 refine triple_of Tryz.func12 rfl Tryz.call12 T0_ok _ rfl rfl rfl rfl (Nat.le_of_ble_eq_true (by kernel_rfl)) (fun _ _ _ _ h=>h) ?_
 intro hpre C hC _ hE
 obtain ⟨P,w0,E0,av,hA,ro,df⟩:=C
 obtain ⟨rfl,rfl,rfl⟩:=hC
 refine swp_seq ?_
 refine zR [0,1] [] (Ak 1 tv) ?_
 refine swp_seq ?_
 refine swp_seq ?_
 refine zR [0,1,10] [] (Ak 5 tv) ?_
 refine zI (!decide ((↑(a.length):Int)=(↑(b.length):Int))) (fun y0 => ?_) (fun y0 => ?_)
 ·refine swp_seq ?_
  refine zR [4] [] (Ak 1 tv) ?_
  refine swp_ret ?_
  exact zT [] (An (Ak 1 tv) (An (An (cb (o0 hpre y0)) (zr nilN)) (An (zr true) (An (zr true) (zr true)))))
 ·refine swp_skip ?_
  refine swp_seq ?_
  refine swp_seq ?_
  refine zR [0,1,5] [] (Ak 1 tv) ?_
  refine swp_block ?_
  refine zL (Hint.ann (h12 a b) [(0,aInts a),(1,aInts b)] [] 10056) (zE hE [] [] [0,1] [] (An (An (An (zr (aInts a)) (zr true)) (An (An (zr (aInts b)) (zr true)) (An (An (ci (o1 hpre y0)) (zr nilN)) tv))) (Ak 1 (An (zr true) (zr true))))) (o2 hpre y0) (fun (x1:Nat) hx1 => ?_)
  refine swp_seq ?_
  refine swp_seq ?_
  refine zR [0,1,5,14] [] (Ak 4 tv) ?_
  refine zI (decide ((x1:Int) < (↑(a.length):Int))) (fun y2 => ?_) (fun y2 => ?_)
  ·refine swp_skip ?_
   refine swp_seq ?_
   refine swp_block ?_
   refine swp_seq ?_
   refine zR [0,1,5,25] [] (Ak 2 (An (An (o3 hpre y0 x1 hx1 y2) (o4 hpre y0 x1 hx1 y2)) (Ak 3 (An (An (o5 hpre y0 x1 hx1 y2) (o6 hpre y0 x1 hx1 y2)) (Ak 2 tv))))) ?_
   refine zI (!decide (a.getD x1 0=b.getD x1 0)) (fun y3 => ?_) (fun y3 => ?_)
   ·refine swp_seq ?_
    refine zR [4] [] (Ak 1 tv) ?_
    refine swp_ret ?_
    exact zT [] (An (Ak 1 tv) (An (An (cb (o7 hpre y0 x1 hx1 y2 y3)) (zr nilN)) (An (zr true) (An (zr true) (zr true)))))
   ·refine swp_skip ?_
    refine zR [0,1,5] [] (Ak 1 (An (o8 hpre y0 x1 hx1 y2 y3) (Ak 1 tv))) ?_
    exact zn (zE hE [] [] [0,1] [] (An (An (An (zr (aInts a)) (zr true)) (An (An (zr (aInts b)) (zr true)) (An (An (ci (o9 hpre y0 x1 hx1 y2 y3)) (zr nilN)) tv))) (Ak 1 (An (zr true) (zr true))))) (o10 hpre y0 x1 hx1 y2 y3) (o11 hpre y0 x1 hx1 y2 y3)
  ·refine swp_exit ?_
   refine swp_seq ?_
   refine zR [4] [] (Ak 1 tv) ?_
   refine swp_ret ?_
   exact zT [] (An (Ak 1 tv) (An (An (cb (o12 hpre y0 x1 hx1 y2)) (zr nilN)) (An (zr true) (An (zr true) (zr true)))))
theorem t12 (a b:List Int):Triple Tryz.prog 12 (s12 a b):=by
 apply w12
 all_goals (try delta q3 q4 q5 q6 q7)
 case o0 =>
  intro hp h
  simp only [Bool.not_eq_true',decide_eq_false_iff_not] at h
  symm
  simp only [sameInts,decide_eq_false_iff_not]
  intro e; rw [e] at h; exact h rfl
 case o6=>intro hp h x hx hl; simp only [Bool.not_eq_false',decide_eq_true_eq] at *; omega
 case o7 =>
  intro hp h x hx hl h2
  simp only [Bool.not_eq_true',decide_eq_false_iff_not] at h2
  symm
  simp only [sameInts,decide_eq_false_iff_not]
  intro e; rw [e] at h2; exact h2 rfl
 case o10 =>
  intro hp h x hx hl h2
  simp only [Bool.not_eq_false',decide_eq_true_eq] at *
  refine ⟨by omega,?_⟩
  rw [take_succ a 0 (by omega),take_succ b 0 (by omega),hx.2,h2]
 case o12 =>
  intro hp h x hx hl
  simp only [Bool.not_eq_false',decide_eq_true_eq,decide_eq_false_iff_not] at *
  symm
  simp only [sameInts,decide_eq_true_eq]
  have h1:=hx.2
  rwa [List.take_of_length_le (by omega),List.take_of_length_le (by omega)] at h1
 all_goals (try ((repeat intro _) <;> (try simp only [Bool.cond_true_left,Bool.cond_false_right,Bool.not_not,Bool.not_eq_true',Bool.not_eq_false',Bool.or_eq_true,Bool.or_eq_false_iff,Bool.and_eq_true,decide_eq_true_eq,decide_eq_false_iff_not,inI,big] at *) <;> first | (exact rfl) | omega | (exact ⟨Nat.zero_le _,fun j hj=>absurd hj (Nat.not_lt_zero j)⟩) | (simp_all; done) | (simp_all; omega)))
theorem w53 (s:Span) (most:Int)
  (o0:(bif within s.hi 0 most then within s.lo 0 s.hi else false)=isSpan s most) :
  Triple Tryz.prog 53 (s53 s most):=by
 refine triple_of Tryz.func53 rfl Tryz.call53 T0_ok _ rfl rfl rfl rfl (Nat.le_of_ble_eq_true (by kernel_rfl)) (fun _ _ _ _ h=>h) ?_
 intro _ C hC _ hE
 obtain ⟨P,w0,E0,av,hA,ro,df⟩:=C
 obtain ⟨rfl,rfl,rfl⟩:=hC
 refine swp_seq ?_
 refine zR [1,2] [0] (Ak 2 tv) ?_
 refine swp_seq ?_
 refine zC ([(3,CallSpec.eq (s80 s.hi 0 most) [true,true,true]),(9,CallSpec.eq (s80 s.lo 0 s.hi) [true,true,true])]) [4] [] (Ak 3 (An (An (An (zr (iv s.hi)) (An (zr (iv 0)) (An (zr (iv most)) tv))) (An (t80 s.hi (0) (most)) (Ak 2 (fun (i0:Env)=>tv)))) (Ak 1 (An (fun (y1:within s.hi 0 most=true)=>(An (Ak 1 tv) tv)) (An (fun (y2:within s.hi 0 most=true)=>(An (An (fun (y3:within s.hi 0 most=true)=>y2) tv) tv)) (An (fun (y4:within s.hi 0 most=true)=>(An (Ak 1 tv) tv)) (An (fun (y5:within s.hi 0 most=true)=>(An (An (fun (y6:within s.hi 0 most=true)=>y5) tv) tv)) (An (fun (y7:within s.hi 0 most=true)=>(An (Ak 1 (An (fun (y8:within s.hi 0 most=true)=>y7) (Ak 1 (An (fun (y9:within s.hi 0 most=true)=>y7) tv)))) (An (An (zr (iv s.lo)) (An (zr (iv 0)) (An (zr (iv s.hi)) tv))) (An (t80 s.lo (0) s.hi) (Ak 2 (fun (i10:Env)=>tv)))))) (An (An (fun (y11:within s.hi 0 most=true)=>y11) (fun (y12:within s.hi 0 most=false)=>tv)) (Ak 1 tv)))))))))) ?_
 refine swp_ret ?_
 exact zT [] (An (Ak 1 tv) (An (An (cb (o0)) (zr nilN)) (An (zr true) (An (zr true) (zr true)))))
theorem t53 (s:Span) (most:Int):Triple Tryz.prog 53 (s53 s most):=by
 apply w53
 unfold isSpan; cases within s.hi 0 most <;> rfl
theorem w49 (so:Int) (all:Int)
  (o0:decide (so=0)=true->2=knownOf so all)
  (o1:decide (so=0)=false->decide (so=all)=true->1=knownOf so all)
  (o2:decide (so=0)=false->decide (so=all)=false->3=knownOf so all) :
  Triple Tryz.prog 49 (s49 so all):=by
 refine triple_of Tryz.func49 rfl Tryz.call49 T0_ok _ rfl rfl rfl rfl (Nat.le_of_ble_eq_true (by kernel_rfl)) (fun _ _ _ _ h=>h) ?_
 intro _ C hC _ hE
 obtain ⟨P,w0,E0,av,hA,ro,df⟩:=C
 obtain ⟨rfl,rfl,rfl⟩:=hC
 refine swp_seq ?_
 refine zR [0,1] [] (Ak 1 tv) ?_
 refine swp_seq ?_
 refine swp_seq ?_
 refine zR [1,5] [] (Ak 1 tv) ?_
 refine swp_block ?_
 refine swp_seq ?_
 refine zR [1,5,6] [] (Ak 2 tv) ?_
 refine zI (decide (so=0)) (fun y0 => ?_) (fun y0 => ?_)
 ·refine swp_seq ?_
  refine zR [4] [] (Ak 1 tv) ?_
  refine swp_ret ?_
  exact zT [] (An (Ak 1 tv) (An (An (ci (o0 y0)) (zr nilN)) (An (zr true) (An (zr true) (zr true)))))
 ·refine swp_seq ?_
  refine zR [8] [] (Ak 3 tv) ?_
  refine zI (decide (so=all)) (fun y1 => ?_) (fun y1 => ?_)
  ·refine swp_seq ?_
   refine zR [4] [] (Ak 1 tv) ?_
   refine swp_ret ?_
   exact zT [] (An (Ak 1 tv) (An (An (ci (o1 y0 y1)) (zr nilN)) (An (zr true) (An (zr true) (zr true)))))
  ·refine swp_skip ?_
   refine swp_seq ?_
   refine zR [4] [] (Ak 1 tv) ?_
   refine swp_ret ?_
   exact zT [] (An (Ak 1 tv) (An (An (ci (o2 y0 y1)) (zr nilN)) (An (zr true) (An (zr true) (zr true)))))
theorem t49 (so all:Int):Triple Tryz.prog 49 (s49 so all):=by
 apply w49 <;> (intros; simp_all [knownOf])
end Go.Ab
namespace Go.Sh
open Go.Ab
structure Ctr where
 frm:Int
 days:Int
 room:Int
 pence:Int
 deriving DecidableEq,Inhabited
structure Shn where
 ad:Int
 day:Int
 ed:Int
 deriving DecidableEq,Inhabited
structure Sday where
 ad:Int
 day:Int
 deriving DecidableEq,Inhabited
structure Book where
 lines:List Span
 shown:List Shn
 rate:Int
 rep:Int
 ctrs:List Ctr
 deriving DecidableEq,Inhabited
def lnB (b:Book) (i:Nat):Span:=b.lines.getD i default
def shB (b:Book) (i:Nat):Shn:=b.shown.getD i default
def ctB (b:Book) (i:Nat):Ctr:=b.ctrs.getD i default
def isAd (b:Book) (n:Int):Bool:=within n 0 ((b.lines.length:Int) - 1)
def isCt (b:Book) (n:Int):Bool:=within n 0 ((b.ctrs.length:Int) - 1)
def okHeadB (b:Book):Bool:=decide ((b.lines.length:Int)<=3) && decide ((b.shown.length:Int)<=6) && decide ((b.ctrs.length:Int)<=3) && within b.rate 0 9 && within b.rep 0 b.rate
def okLn (s:Span):Bool:=isSpan s 9
def okShn (b:Book) (i:Nat):Bool:=isAd b (shB b i).ad && within (shB b i).day 0 13 && within (shB b i).ed 0 2 && (List.range i).all fun k => !decide (shB b k=shB b i)
def okCtr (c:Ctr):Bool:=within c.frm 0 13 && within c.days 1 7 && within c.room 0 99 && within c.pence 0 99
def okBook (b:Book):Bool:=okHeadB b && b.lines.all okLn && (List.range b.shown.length).all (okShn b) && b.ctrs.all okCtr
def stoodB (b:Book) (ad day:Int):Bool:=b.shown.any fun s=>decide (s.ad=ad) && decide (s.day=day)
def stdsOn (b:Book) (d:Nat):List Sday:=(List.range b.lines.length).filterMap fun (a:Nat)=>if stoodB b a d then some ⟨a,d⟩ else none
def stds (b:Book):List Sday:=(List.range 14).flatMap (stdsOn b)
def sdA (b:Book) (i:Nat):Sday:=(stds b).getD i default
structure Desk where
 room:Nat->Int
 used:Nat->Int
 cost:Int
def setF (g:Nat->Int) (k:Nat) (v:Int):Nat->Int:=fun i=>if i=k then v else g i
def desk0 (b:Book):Desk:=⟨fun i=>(ctB b i).room,fun _=>0,0⟩
def rateOf (b:Book) (s:Sday):Int:=if stoodB b s.ad (s.day - 1) then b.rep else b.rate
def singleP (b:Book) (ls:List Int) (s:Sday):Int:=rateOf b s * ls.getD s.ad.toNat 0
def inWin (c:Ctr) (day:Int):Bool:=within day c.frm (c.frm + c.days - 1)
def billD (b:Book) (ls:List Int) (d:Desk) (s:Sday) (by_:Int):Desk :=
 if by_ = -1 then { d with cost:=d.cost + singleP b ls s }
 else if isCt b by_ then ⟨setF d.room by_.toNat (d.room by_.toNat - ls.getD s.ad.toNat 0),setF d.used by_.toNat (d.used by_.toNat + 1),if d.used by_.toNat + 1=1 then d.cost + (ctB b by_.toNat).pence else d.cost⟩
 else d
def billOK (b:Book) (ls:List Int) (d:Desk) (s:Sday) (by_:Int):Bool :=
 if by_ = -1 then true
 else isCt b by_ && (inWin (ctB b by_.toNat) s.day && decide (0<=d.room by_.toNat - ls.getD s.ad.toNat 0))
abbrev Best:=List Int × Int
def bysB (b:Book):List Int:=(List.range (b.ctrs.length + 1)).map fun (k:Nat)=>(k:Int) - 1
def fromP (b:Book) (ls:List Int):Nat->Desk->List Int->Best->Best
 | 0,d,l,st=>if decide (0<=st.2) && decide (st.2<=d.cost) then st else (l,d.cost)
 | m + 1,d,l,st =>
  if decide (0<=st.2) && decide (st.2<=d.cost) then st
  else (bysB b).foldl (fun st y=>if billOK b ls d (sdA b l.length) y then fromP b ls m (billD b ls d (sdA b l.length) y) (l ++ [y]) st else st) st
def bestB (b:Book) (ls:List Int):Best:=fromP b ls (stds b).length (desk0 b) [] ([],-1)
def extsP (b:Book) (ls:List Int):Nat->Desk->List Int->List Best
 | 0,d,l=>[(l,d.cost)]
 | m + 1,d,l=>(bysB b).flatMap fun y=>if billOK b ls d (sdA b l.length) y then extsP b ls m (billD b ls d (sdA b l.length) y) (l ++ [y]) else []
def updB (st x:Best):Best:=if decide (0<=st.2) && decide (st.2<=x.2) then st else x
theorem snoc_ind8 {α:Type} {P:List α->Prop} (h0:P []) (h1:∀ l x,P l->P (l ++ [x])) (l:List α):P l:=by
 have h:∀ m:List α,P m.reverse:=by
  intro m
  induction m with
  | nil=>exact h0
  | cons x m ih=>rw [List.reverse_cons]; exact h1 _ _ ih
 have:=h l.reverse
 rwa [List.reverse_reverse] at this
structure SoundB (b:Book):Prop where
 lines:b.lines.length<=3
 shown:b.shown.length<=6
 ctrs:b.ctrs.length<=3
 rate:0<=b.rep/\b.rep<=b.rate/\b.rate<=9
 line:∀ i,i < b.lines.length->0<=(lnB b i).lo/\(lnB b i).lo<=(lnB b i).hi/\(lnB b i).hi<=9
 show_:∀ i,i < b.shown.length->(0<=(shB b i).ad/\(shB b i).ad < b.lines.length)/\0<=(shB b i).day/\(shB b i).day<=13/\0<=(shB b i).ed/\(shB b i).ed<=2
 ctr:∀ i,i < b.ctrs.length->(0<=(ctB b i).frm/\(ctB b i).frm<=13)/\(1<=(ctB b i).days/\(ctB b i).days<=7)/\(0<=(ctB b i).room/\(ctB b i).room<=99)/\0<=(ctB b i).pence/\(ctB b i).pence<=99
def GoodLn (b:Book) (ls:List Int):Prop:=ls.length=b.lines.length /\ ∀ i,0<=ls.getD i 0/\ls.getD i 0<=9
theorem isCt_get {b:Book} {c:Int} (h:isCt b c=true):0<=c/\c < b.ctrs.length:=by
 unfold isCt at h
 have:=within_iff.1 h
 omega
variable {b:Book} {ls:List Int}
theorem rate_in (hs:SoundB b) (s:Sday):0<=rateOf b s/\rateOf b s<=9:=by
 have:=hs.rate
 unfold rateOf
 split <;> omega
theorem single_in (hs:SoundB b) (hl:GoodLn b ls) (s:Sday):0<=singleP b ls s/\singleP b ls s<=81:=by
 have h1:=rate_in hs s
 have h2:=hl.2 s.ad.toNat
 unfold singleP
 refine ⟨Int.mul_nonneg h1.1 h2.1,?_⟩
 calc rateOf b s * ls.getD s.ad.toNat 0<=9 * 9:=Int.mul_le_mul h1.2 h2.2 h2.1 (by omega)
  _=81:=by decide
theorem bill_cost (hs:SoundB b) (hl:GoodLn b ls) (d:Desk) (s:Sday) (y:Int):d.cost<=(billD b ls d s y).cost/\(billD b ls d s y).cost<=d.cost + 99:=by
 have h1:=single_in hs hl s
 unfold billD
 split
 ·show d.cost<=d.cost + _/\d.cost + _<=_; omega
 ·split
  ·rename_i h
   have h2:=isCt_get h
   have h3:=(hs.ctr y.toNat (by omega)).2.2.2
   simp only
   split <;> omega
  ·omega
theorem ext_cost (hs:SoundB b) (hl:GoodLn b ls):∀ (m:Nat) (d:Desk) (l:List Int) (x:Best),x ∈ extsP b ls m d l->d.cost<=x.2/\x.2<=d.cost + 99 * m:=by
 intro m
 induction m with
 | zero =>
  intro d l x h
  have:x=(l,d.cost):=by simpa [extsP] using h
  rw [this]; exact ⟨Int.le_refl _,by show d.cost<=_; omega⟩
 | succ m ih =>
  intro d l x h
  rw [extsP] at h
  obtain ⟨y,_,h⟩:=List.mem_flatMap.1 h
  split at h
  ·have h1:=ih _ _ _ h
   have h2:=bill_cost hs hl d (sdA b l.length) y
   omega
  ·cases h
theorem upd_stay {st:Best}:∀ {xs:List Best},(∀ x,x ∈ xs->(decide (0<=st.2) && decide (st.2<=x.2))=true)->xs.foldl updB st=st:=by
 intro xs
 induction xs with
 | nil=>intro _; rfl
 | cons x xs ih =>
  intro h
  rw [List.foldl_cons]
  have:updB st x=st:=by unfold updB; rw [if_pos (h x (by simp))]
  rw [this]
  exact ih (fun y hy=>h y (by simp [hy]))
theorem foldl_flat {α:Type} (g:Best->α->Best) (e:α->List Best):∀ (ys:List α) (st:Best),(∀ st y,y ∈ ys->g st y=(e y).foldl updB st)->ys.foldl g st=(ys.flatMap e).foldl updB st:=by
 intro ys
 induction ys with
 | nil=>intro st _; rfl
 | cons y ys ih =>
  intro st h
  rw [List.foldl_cons,List.flatMap_cons,List.foldl_append,h st y (by simp)]
  exact ih _ (fun st z hz=>h st z (by simp [hz]))
theorem from_exts (hs:SoundB b) (hl:GoodLn b ls):∀ (m:Nat) (d:Desk) (l:List Int) (st:Best),fromP b ls m d l st=(extsP b ls m d l).foldl updB st:=by
 intro m
 induction m with
 | zero=>intro d l st; rfl
 | succ m ih =>
  intro d l st
  by_cases hp:(decide (0<=st.2) && decide (st.2<=d.cost))=true
  ·rw [fromP,if_pos hp]
   refine (upd_stay fun x hx => ?_).symm
   have:=ext_cost hs hl (m + 1) d l x hx
   simp only [Bool.and_eq_true,decide_eq_true_eq] at hp ⊢
   omega
  ·rw [fromP,if_neg hp,extsP]
   refine foldl_flat _ _ _ _ fun st y _ => ?_
   split
   ·exact ih _ _ _
   ·rfl
theorem best_exts (hs:SoundB b) (hl:GoodLn b ls):bestB b ls=(extsP b ls (stds b).length (desk0 b) []).foldl updB ([],-1):=from_exts hs hl _ _ _ _
end Go.Sh
namespace Go.Sh
def sortI (l:List Int):List Int:=l.mergeSort (fun x y=>decide (x<=y))
theorem sortI_len (l:List Int):(sortI l).length=l.length:=List.length_mergeSort _
end Go.Sh
namespace Go.Ab
open Go Go.RowKit Go.Sort Go.Sh
theorem putRow_heap {α:Type} [Inhabited α] (enc:α->Value) (w:World) (q k:Nat) (ys:List α) (os:Array Obj) (us:List Value) (e:TypeId) (hw:w.heap[k]? = some (.cells us.toArray e (0,0))) (hl:ys.length<=us.length) :
  (grow (putRow enc (Sort.ahead w q) k 0 ys.toArray) os).heap[k]? = some (.cells (ys.map enc ++ us.drop ys.length).toArray e (0,0))/\w.grownBy (grow (putRow enc (Sort.ahead w q) k 0 ys.toArray) os) (some k):=by
 have hlt:k < w.heap.size:=(Array.getElem?_eq_some_iff.1 hw).1
 have hsz:(putRow enc (Sort.ahead w q) k 0 ys.toArray).heap.size=w.heap.size:=by simp [putRow,mapBlock,Sort.ahead]
 refine ⟨?_,⟨rfl,rfl,rfl,by rw [size_grow,hsz]; omega,fun j hj hne => ?_⟩⟩
 ·rw [heap_grow_old _ _ (by rw [hsz]; exact hlt)]
  show ((Sort.ahead w q).heap.modify k _)[k]? = _
  have hw':(Sort.ahead w q).heap[k]? = some (.cells us.toArray e (0,0)):=hw
  rw [Array.getElem?_modify,if_pos rfl,hw']
  simp only [Option.map_some,onCells,Option.some.injEq,Obj.cells.injEq,and_true]
  apply Array.ext_getElem?
  intro i
  simp only [putCells,Array.getElem?_mapIdx,List.getElem?_toArray,List.size_toArray,Nat.zero_le,true_and,Nat.zero_add,Nat.sub_zero]
  by_cases h1:i < ys.length
  ·rw [List.getElem?_append_left (by simpa using h1),List.getElem?_map,List.getElem?_eq_getElem h1,List.getElem?_eq_getElem (show i < us.length by omega)]
   simp only [Option.map_some,if_pos h1]
   rw [getElem!_pos _ i (by simpa using h1)]
   simp
  ·rw [List.getElem?_append_right (by simpa using h1),List.getElem?_drop]
   have:ys.length + (i - (List.map enc ys).length)=i:=by simp; omega
   rw [this]
   cases us[i]? with
   | none=>rfl
   | some u=>simp only [Option.map_some,if_neg h1]
 ·rw [heap_grow_old _ _ (by rw [hsz]; exact hj)]
  show ((Sort.ahead w q).heap.modify k _)[j]? = _
  rw [Array.getElem?_modify,if_neg (fun e=>hne (by rw [e]))]
  rfl
def rowI (t:TypeId) (l:List Int):OB := .vec t 1 l.length (fun i=>[iv (l.getD i 0)])
theorem rowI_flat {E:Env} {l:List Int} {g:Nat->List Value} (hr:∀ i,i < l.length->RelL E false [iv (l.getD i 0)] (g i)):(List.range l.length).flatMap g=l.map (Value.int .i64):=by
 have h1:∀ i,i < l.length->g i = [Value.int .i64 (l.getD i 0)]:=by
  intro i hi
  have:=hr i hi
  generalize g i=x at this
  cases this with
  | cons h _ hs=>cases hs; cases h; rfl
 refine List.ext_getElem? fun i => ?_
 have hlen:=flat_length g 1 l.length (fun i hi=>by rw [h1 i hi]; rfl)
 by_cases hi:i < l.length
 ·have:=flat_get g 1 l.length (fun i hi=>by rw [h1 i hi]; rfl) i 0 hi (by omega)
  simp only [Nat.mul_one,Nat.add_zero] at this
  rw [this,h1 i hi,List.getElem?_map,List.getElem?_eq_getElem hi]
  simp [List.getD,List.getElem?_eq_getElem hi]
 ·rw [List.getElem?_eq_none (by omega),List.getElem?_eq_none (by simpa using hi)]
theorem rowI_rel (E:Env) (l:List Int):∀ i,i < l.length->RelL E false [iv (l.getD i 0)] [Value.int .i64 (l.getD i 0)]:=fun i _ => .cons (.lit _) rfl .nil
theorem rowI_flat' (l:List Int):(List.range l.length).flatMap (fun i=>[Value.int .i64 (l.getD i 0)])=l.map (Value.int .i64):=by
 let E0:Env:=⟨fun _=>none,fun _=>none,fun _=>none,fun _ _=>False⟩
 exact rowI_flat (E:=E0) (rowI_rel E0 l)
theorem holdsI {w:World} {k:Nat} {l:List Int} {us:List Value} {e:TypeId} (hw:w.heap[k]? = some (.cells us.toArray e (0,0))) (ht:us.take l.length=l.map (Value.int .i64)):Holds (Value.int .i64) w k 0 l.toArray:=by
 intro j hj
 have hj':j < l.length:=by simpa using hj
 have h1:us[j]? = some (.int .i64 l[j]):=by
  have:=congrArg (fun x=>x[j]?) ht
  simp only [List.getElem?_take,if_pos hj',List.getElem?_map,List.getElem?_eq_getElem hj',Option.map_some] at this
  exact this
 refine ⟨?_,?_⟩
 ·rw [Nat.zero_add,getElem!_pos _ j hj]
  simp only [World.cell?,hw]
  simpa using h1
 ·simp only [World.frozen?,hw]
  rfl
theorem own_rowI {C:Ctx} {E:Env} {w:World} {b:Nat} {t:TypeId} {l:List Int} (h:OwnOB C E w b (rowI t l)) (hn:0 < l.length) :
  ∃ k cap us,E.hdr b=some (.slice (some ⟨k,0,none⟩) l.length cap)/\l.length<=cap/\cap<=maxLen/\w.heap[k]? = some (.cells (List.toArray us) t (0,0))/\us.length=cap/\us.take l.length=l.map (Value.int .i64)/\E.blk b=some k/\C.avail k/\E.M k=none:=by
 obtain ⟨hd,g,hh,ho,hl,hr,hbk,hav⟩:=h
 rcases ownsRow_form ho with ⟨_,h0⟩ | ⟨k,cap,rfl,hnc,hcm,us,hw,hul,hut⟩
 ·omega
 ·rw [Nat.mul_one] at hul hut
  rw [rowI_flat hr] at hut
  exact ⟨k,cap,us,hh,hnc,hcm,hw,hul,hut,hbk,(hav k rfl).1,(hav k rfl).2⟩
theorem ownsRow_of {w:World} {k cap:Nat} {us:List Value} {t:TypeId} {l:List Int} (hw:w.heap[k]? = some (.cells us.toArray t (0,0))) (hnc:l.length<=cap) (hcm:cap<=maxLen) (hul:us.length=cap) (hut:us.take l.length=l.map (Value.int .i64)) :
  w.ownsRow 0 t 1 (.slice (some ⟨k,0,none⟩) l.length cap) l.length ((List.range l.length).flatMap (fun i=>[Value.int .i64 (l.getD i 0)])):=by
 rw [rowI_flat']
 refine ⟨by simp,.inr ⟨k,cap,us.toArray,rfl,Nat.zero_le _,hw,hnc,hcm,by simpa using hul,by simpa using hut⟩⟩
theorem triple_sort {P:Program} {f:FuncId} (hcall:Callable P f) (t:TypeId) (b:Nat) (l:List Int)
  (h:∀ k cap w,Holds (Value.int .i64) w k 0 l.toArray->k < w.heap.size->l.length < 4611686018427387904->Calls P f #[.slice (some ⟨k,0,none⟩) l.length cap] w fun e w'=>e = .returned (.tuple #[]) /\ ∃ n os,w'=grow (putRow (Value.int .i64) (Sort.ahead w n) k 0 (sortI l).toArray) os) :
  Triple P f { args:=[.vec b],pre:=0 < l.length/\l.length<=65536,hin:=[(b,rowI t l)],res := .tup [],hout:=[(b,rowI t (sortI l))] }:=by
 refine ⟨hcall,fun hpre E w vs _ hok hlen hrel _ => ?_⟩
 obtain ⟨v,rfl⟩:∃ v,vs = [v]:=by
  match vs,hlen with
  | [v],_=>exact ⟨v,rfl⟩
 have hv:=hrel 0
 simp only [List.getD_cons_zero] at hv
 have hob:Heap.of [(b,rowI t l)] b=some (rowI t l):=by rw [Heap.of_cons,if_pos rfl]
 obtain ⟨k,cap,us,hh,hnc,hcm,hw,hul,hut,hbk,hav,hM⟩:=own_rowI (hok.own b _ hob) hpre.1
 cases hv with
 | vec _ hh' _ =>
 rw [hh] at hh'
 cases hh'
 have hlt:k < w.heap.size:=(Array.getElem?_eq_some_iff.1 hw).1
 refine (h k cap w (holdsI hw hut) hlt (by omega)).mono ?_
 rintro e w' ⟨rfl,n,os,rfl⟩
 obtain ⟨h1,hg⟩:=putRow_heap (Value.int .i64) w n k (sortI l) os us t hw (by rw [sortI_len]; omega)
 refine ⟨_,E,rfl,?_,.tup rfl (fun k=>by simp; exact .any _),fun _ _=>⟨rfl,rfl⟩⟩
 have:=hok.setVec b k (by rw [hob]; simp) hbk hav hM hg (rowI t (sortI l)) ?_
 ·refine this.drop fun i ob hi => ?_
  rw [Heap.of_cons] at hi
  split at hi
  ·rename_i e; cases hi; unfold Heap.put; rw [if_pos e.symm]
  ·cases hi
 ·refine ⟨_,fun i=>[Value.int .i64 ((sortI l).getD i 0)],hh,?_,fun _ _=>rfl,rowI_rel E _,hbk,fun k' hk' => ?_⟩
  ·have:=ownsRow_of (l:=sortI l) (cap:=cap) h1 (by rw [sortI_len]; exact hnc) hcm (by simp [sortI_len,hul]; omega) (by rw [List.take_append_of_le_length (by rw [List.length_map]; exact Nat.le_refl _)]; exact List.take_of_length_le (by rw [List.length_map]; exact Nat.le_refl _))
   rw [sortI_len] at this ⊢
   exact this
  ·cases hk'; exact ⟨hav,hM⟩
end Go.Ab
namespace Go.Ab
open Go Go.RowKit Go.Sort Go.Sh
theorem triple_sort0 {P:Program} {f:FuncId} (hcall:Callable P f) (t:TypeId) (b:Nat) (l:List Int)
  (h:∀ k cap w,Holds (Value.int .i64) w k 0 l.toArray->k < w.heap.size->l.length < 4611686018427387904->Calls P f #[.slice (some ⟨k,0,none⟩) l.length cap] w fun e w'=>e = .returned (.tuple #[]) /\ ∃ n os,w'=grow (putRow (Value.int .i64) (Sort.ahead w n) k 0 (l.mergeSort fun x y=>decide (x<=y)).toArray) os)
  (h0:∀ p cap w,Calls P f #[.slice p 0 cap] w fun e w'=>e = .returned (.tuple #[])/\w'=w) :
  Triple P f { args:=[.vec b],pre:=l.length<=65536,hin:=[(b,rowI t l)],res := .tup [],hout:=[(b,rowI t (sortI l))] }:=by
 refine ⟨hcall,fun hpre E w vs hfn hok hlen hrel hfr => ?_⟩
 cases l with
 | cons x l=>exact (triple_sort hcall t b (x :: l) h).2 ⟨Nat.succ_pos _,hpre⟩ E w vs hfn hok hlen hrel hfr
 | nil =>
  obtain ⟨v,rfl⟩:∃ v,vs = [v]:=by
   match vs,hlen with
   | [v],_=>exact ⟨v,rfl⟩
  have hv:=hrel 0
  simp only [List.getD_cons_zero] at hv
  have hob:Heap.of [(b,rowI t [])] b=some (rowI t []):=by rw [Heap.of_cons,if_pos rfl]
  have hown:=hok.own b _ hob
  have hs:sortI [] = []:=by simp [sortI]
  have fin:∀ u,E.hdr b=some u->Calls P f #[u] w (fun e w'=>e = .returned (.tuple #[])/\w'=w)->Calls P f #[v] w (CallPost P { args:=[.vec b],pre:=([]:List Int).length<=65536,hin:=[(b,rowI t [])],res := .tup [],hout:=[(b,rowI t (sortI []))] } E w):=by
   intro u hu hc
   cases hv with
   | vec _ hh' _ =>
   rw [hu] at hh'
   cases hh'
   refine hc.mono ?_
   rintro e w' ⟨rfl,rfl⟩
   exact ⟨_,E,rfl,by rw [hs]; exact hok,.tup rfl (fun k=>by simp; exact .any _),fun _ _=>⟨rfl,rfl⟩⟩
  obtain ⟨hd,g,hh,ho,_⟩:=hown
  rcases ownsRow_form ho with ⟨hv',_⟩ | ⟨k,cap,hv',_⟩
  ·exact fin hd hh (by rw [hv']; exact h0 none 0 w)
  ·exact fin hd hh (by rw [hv']; exact h0 _ cap w)
end Go.Ab
namespace Go.Sh
open Go.Ab
def fitsB (b:Book):Prop:=b.lines.length<=Go.Ab.big/\b.shown.length<=Go.Ab.big/\b.ctrs.length<=Go.Ab.big
def smallB (b:Book):Prop:=b.lines.length<=64/\b.shown.length<=64/\b.ctrs.length<=64
def checkB (b:Book):Int:=if okBook b then 0 else 80
def openE (b:Book) (is:Bool):Int:=if okBook b then (if is then 0 else 1) else 80
def hugeB (b:Book):Bool:=decide ((b.lines.length:Int) > 40) || decide ((b.shown.length:Int) > 40) || decide ((b.ctrs.length:Int) > 40)
def idxG {α:Type} [DecidableEq α] (l:List α) (x:α):Int:=match l.findIdx? (fun y=>decide (y=x)) with | some i=>i | none => -1
def hasG {α:Type} [DecidableEq α] (l:List α) (x:α):Bool:=l.any fun y=>decide (y=x)
theorem idxG_found {α:Type} [DecidableEq α] (d:α) {l:List α} {p:α} {x:Nat} (hx:x < l.length) (h:∀ j,j < x->decide (l.getD j d=p)=false) (hp:decide (l.getD x d=p)=true):idxG l p=x:=by
 have:l.findIdx? (fun y=>decide (y=p))=some x:=by
  rw [List.findIdx?_eq_some_iff_getElem]
  refine ⟨hx,by rw [← Go.Ab.getD_lt l d hx]; exact hp,fun j hj => ?_⟩
  rw [← Go.Ab.getD_lt l d (by omega),h j hj]; simp
 simp [idxG,this]
theorem idxG_none {α:Type} [DecidableEq α] (d:α) {l:List α} {p:α} (h:∀ j,j < l.length->decide (l.getD j d=p)=false):idxG l p = -1:=by
 have:l.findIdx? (fun y=>decide (y=p))=none:=by
  rw [List.findIdx?_eq_none_iff]
  intro x hx
  have h1:=Go.Ab.any_idx l d (fun y=>decide (y=p)) h
  rw [List.any_eq_false] at h1
  simpa using h1 x hx
 simp [idxG,this]
theorem idxG_has {α:Type} [DecidableEq α] (l:List α) (x:α):decide (idxG l x ≥ 0)=hasG l x:=by
 unfold idxG hasG
 cases e:l.findIdx? (fun y=>decide (y=x)) with
 | none =>
  rw [List.findIdx?_eq_none_iff] at e
  have:l.any (fun y=>decide (y=x))=false:=by
   rw [List.any_eq_false]; intro y hy; rw [e y hy]; simp
  rw [this]; rfl
 | some i =>
  rw [List.findIdx?_eq_some_iff_getElem] at e
  obtain ⟨h,h1,_⟩:=e
  have:l.any (fun y=>decide (y=x))=true:=List.any_eq_true.2 ⟨_,List.getElem_mem h,h1⟩
  rw [this]
  exact decide_eq_true (show ((i:Nat):Int) ≥ 0 by omega)
def anyW (l:List Int):Bool:=l.any fun n => !within n 0 9
def areLnB (b:Book) (ls:List Int):Bool:=decide (ls.length=b.lines.length) && ls.all fun n=>within n 0 9
def givenE (b:Book) (ls:List Int) (is:Bool):Int:=openE b (is && areLnB b ls)
def dayTo (b:Book) (d a:Nat):List Sday:=(List.range a).filterMap fun (a:Nat)=>if stoodB b a d then some ⟨a,d⟩ else none
def stdTo (b:Book) (d a:Nat):List Sday:=(List.range d).flatMap (stdsOn b) ++ dayTo b d a
end Go.Sh
namespace Go.En
open Go Go.Ab Go.Sh
def cShn (s:Shn):List AV:=[iv s.ad,iv s.day,iv s.ed]
abbrev vShn (s:Shn):AV := .agg (cShn s)
def cCtr (c:Ctr):List AV:=[iv c.frm,iv c.days,iv c.room,iv c.pence]
def cSday (s:Sday):List AV:=[iv s.ad,iv s.day]
abbrev vSday (s:Sday):AV := .agg (cSday s)
def aShns (l:List Shn):AV := .sl 3 l.length (fun i=>cShn (l.getD i default))
def aDays (l:List Sday):AV := .sl 2 l.length (fun i=>cSday (l.getD i default))
def cBk (b:Book):List AV:=[.sl 2 b.lines.length (fun i=>cSpan (lnB b i)),.sl 3 b.shown.length (fun i=>cShn (shB b i)),iv b.rate,iv b.rep,.sl 4 b.ctrs.length (fun i=>cCtr (ctB b i))]
abbrev vBk (b:Book):AV := .agg (cBk b)
def cWk (b:Book):List AV:=[.sl 2 b.lines.length (fun i=>cSpan (lnB b i)),.sl 3 b.shown.length (fun i=>cShn (shB b i)),iv b.rate,iv b.rep,.sl 4 b.ctrs.length (fun i=>cCtr (ctB b i)),aDays (stds b)]
abbrev vWk (b:Book):AV := .rp (cWk b)
end Go.En
namespace Go.Ab
open Go Go.RowKit Go.Proofs Go.Sh Go.En
abbrev rowS (l:List Sday):OB := .vec 54 2 l.length (fun i=>cSday (l.getD i default))
def s62 (n lo hi:Int):CallSpec:={ args:=[iv n,iv lo,iv hi],res:=bv (within n lo hi) }
def s52 (n lo hi:Int):CallSpec:={ args:=[iv n,iv lo,iv hi],res:=bv (within n lo hi) }
def s38 (b:Book) (n:Int):CallSpec:={ args:=[vBk b,iv n],res:=bv (isCt b n),pre:=fitsB b }
def s41 (b:Book) (n:Int):CallSpec:={ args:=[vBk b,iv n],res:=bv (isCt b n),pre:=fitsB b }
def s54 (b:Book) (n:Int):CallSpec:={ args:=[vBk b,iv n],res:=bv (isAd b n),pre:=fitsB b }
def s99 (l:List Shn) (x:Shn):CallSpec:={ args:=[aShns l,vShn x],res:=iv (idxG l x),pre:=l.length<=65536 }
def h99 (l:List Shn) (x:Shn):Hint:={ X:=Nat,M:=fun i=>[(8,iv i)],I:=fun i=>i<=l.length /\ ∀ j,j < i->decide (l.getD j default=x)=false,mu:=fun i=>l.length - i,x0:=(0:Nat),nx:=fun i=>i + 1 }
def s86 (l:List Shn) (x:Shn):CallSpec:={ args:=[aShns l,vShn x],res:=bv (hasG l x),pre:=l.length<=65536 }
def s82 (l:List Sday) (x:Sday):CallSpec:={ args:=[aDays l,vSday x],res:=iv (idxG l x),pre:=l.length<=65536 }
def h82 (l:List Sday) (x:Sday):Hint:={ X:=Nat,M:=fun i=>[(8,iv i)],I:=fun i=>i<=l.length /\ ∀ j,j < i->decide (l.getD j default=x)=false,mu:=fun i=>l.length - i,x0:=(0:Nat),nx:=fun i=>i + 1 }
def s59 (l:List Sday) (x:Sday):CallSpec:={ args:=[aDays l,vSday x],res:=bv (hasG l x),pre:=l.length<=65536 }
def s79 (l:List Int) (x:Int):CallSpec:={ args:=[aInts l,iv x],res:=iv (idxG l x),pre:=l.length<=65536 }
def h79 (l:List Int) (x:Int):Hint:={ X:=Nat,M:=fun i=>[(8,iv i)],I:=fun i=>i<=l.length /\ ∀ j,j < i->decide (l.getD j 0=x)=false,mu:=fun i=>l.length - i,x0:=(0:Nat),nx:=fun i=>i + 1 }
def s47 (l:List Int) (x:Int):CallSpec:={ args:=[aInts l,iv x],res:=bv (hasG l x),pre:=l.length<=65536 }
def s72 (b:Book):CallSpec:={ args:=[vBk b],res:=iv (checkB b),pre:=smallB b }
def h72a (b:Book):Hint:={ X:=Nat,M:=fun i=>[(42,iv i)],I:=fun i=>i<=b.lines.length /\ ∀ j,j < i->okLn (lnB b j)=true,mu:=fun i=>b.lines.length - i,x0:=(0:Nat),nx:=fun i=>i + 1 }
def h72b (b:Book):Hint:={ X:=Nat,M:=fun i=>[(61,iv i)],I:=fun i=>i<=b.shown.length /\ ∀ j,j < i->okShn b j=true,mu:=fun i=>b.shown.length - i,x0:=(0:Nat),nx:=fun i=>i + 1 }
def c72 (b:Book) (x:Nat):CallSpec:=s86 (b.shown.take x) (shB b x)
def h72c (b:Book):Hint:={ X:=Nat,M:=fun i=>[(98,iv i)],I:=fun i=>i<=b.ctrs.length /\ ∀ j,j < i->okCtr (ctB b j)=true,mu:=fun i=>b.ctrs.length - i,x0:=(0:Nat),nx:=fun i=>i + 1 }
def s25 (b:Book):CallSpec:={ args:=[vBk b],res:=iv (checkB b),pre:=fitsB b }
def h25a (b:Book):Hint:={ X:=Nat,M:=fun i=>[(3,iv i)],I:=fun i=>i<=b.lines.length /\ ∀ j,j < i->okLn (lnB b j)=true,mu:=fun i=>b.lines.length - i,x0:=(0:Nat),nx:=fun i=>i + 1 }
def h25b (b:Book):Hint:={ X:=Nat,M:=fun i=>[(4,iv i)],I:=fun i=>i<=b.shown.length /\ ∀ j,j < i->okShn b j=true,mu:=fun i=>b.shown.length - i,x0:=(0:Nat),nx:=fun i=>i + 1 }
def h25c (b:Book) (x:Nat):Hint:={ X:=Nat,M:=fun k=>[(6,iv k)],I:=fun k=>k<=x /\ ∀ j,j < k->decide (shB b j=shB b x)=false,mu:=fun k=>x - k,x0:=(0:Nat),nx:=fun k=>k + 1 }
def h25d (b:Book):Hint:={ X:=Nat,M:=fun i=>[(7,iv i)],I:=fun i=>i<=b.ctrs.length /\ ∀ j,j < i->okCtr (ctB b j)=true,mu:=fun i=>b.ctrs.length - i,x0:=(0:Nat),nx:=fun i=>i + 1 }
def c25 (b:Book) (x:Nat):CallSpec:=s53 (lnB b x) 9
def s24 (b:Book):CallSpec:={ args:=[vBk b],res:=bv (hugeB b),pre:=fitsB b }
def s55 (b:Book) (ad day:Int):CallSpec:={ args:=[vBk b,iv ad,iv day],res:=bv (stoodB b ad day),pre:=fitsB b }
def h55 (b:Book) (ad day:Int):Hint:={ X:=Nat,M:=fun i=>[(7,iv i)],I:=fun i=>i<=b.shown.length /\ ∀ j,j < i->(decide ((shB b j).ad=ad) && decide ((shB b j).day=day))=false,mu:=fun i=>b.shown.length - i,x0:=(0:Nat),nx:=fun i=>i + 1 }
def s26 (b:Book):CallSpec:={ args:=[vBk b],res:=aDays (stds b),pre:=smallB b }
def h26a (b:Book):Hint:={ X:=Nat,M:=fun d=>[(3,.vec 5000),(4,iv d)],H:=fun d=>[(5000,rowS (stdTo b d 0))],I:=fun d=>d<=14,mu:=fun d=>14 - d,x0:=(0:Nat),nx:=fun d=>d + 1 }
def h26b (b:Book) (d:Nat):Hint:={ X:=Nat,M:=fun a=>[(3,.vec 5001),(5,iv a)],H:=fun a=>[(5001,rowS (stdTo b d a))],I:=fun a=>a<=b.lines.length,mu:=fun a=>b.lines.length - a,x0:=(0:Nat),nx:=fun a=>a + 1 }
def s61 (n:Int):CallSpec:={ args:=[iv n],res:=bv (!within n 0 9) }
def s17 (a b:Book):CallSpec:={ args:=[vBk a,vBk b],res:=bv (decide (a=b)),pre:=fitsB a }
def h17a (a b:Book):Hint:={ X:=Nat,M:=fun i=>[(5,iv i)],I:=fun i=>i<=a.lines.length/\a.lines.take i=b.lines.take i,mu:=fun i=>a.lines.length - i,x0:=(0:Nat),nx:=fun i=>i + 1 }
def h17b (a b:Book):Hint:={ X:=Nat,M:=fun i=>[(6,iv i)],I:=fun i=>i<=a.shown.length/\a.shown.take i=b.shown.take i,mu:=fun i=>a.shown.length - i,x0:=(0:Nat),nx:=fun i=>i + 1 }
def h17c (a b:Book):Hint:={ X:=Nat,M:=fun i=>[(7,iv i)],I:=fun i=>i<=a.ctrs.length/\a.ctrs.take i=b.ctrs.take i,mu:=fun i=>a.ctrs.length - i,x0:=(0:Nat),nx:=fun i=>i + 1 }
end Go.Ab
namespace Go.Ab
open Go Go.RowKit Go.Proofs Go.Sh Go.En
theorem chk_bad {b:Book} (h:okBook b=false):(80:Int)=checkB b:=by unfold checkB; rw [h]; rfl
theorem chk_head {b:Book} (h:okHeadB b=false):(80:Int)=checkB b:=chk_bad (by unfold okBook; rw [h]; rfl)
theorem not_all8 {α:Type} (d:α) {l:List α} {p:α->Bool} {x:Nat} (hx:x < l.length) (h:p (l.getD x d)=false):l.all p=false:=by
 rw [List.all_eq_false]; exact ⟨_,getD_mem l d hx,by rw [h]; simp⟩
theorem chk_ln {b:Book} {x:Nat} (hx:x < b.lines.length) (h:okLn (lnB b x)=false):(80:Int)=checkB b:=chk_bad (by unfold okBook; rw [not_all8 default hx h]; simp)
theorem chk_ct {b:Book} {x:Nat} (hx:x < b.ctrs.length) (h:okCtr (ctB b x)=false):(80:Int)=checkB b:=chk_bad (by unfold okBook; rw [not_all8 default hx h]; simp)
theorem chk_sh {b:Book} {x:Nat} (hx:x < b.shown.length) (h:okShn b x=false):(80:Int)=checkB b:=chk_bad (by
 have:(List.range b.shown.length).all (okShn b)=false:=by rw [List.all_eq_false]; exact ⟨x,List.mem_range.2 hx,by rw [h]; simp⟩
 unfold okBook; rw [this]; simp)
theorem chk_ok {b:Book} (h0:okHeadB b=true) (h1:∀ j,j < b.lines.length->okLn (lnB b j)=true) (h2:∀ j,j < b.shown.length->okShn b j=true) (h3:∀ j,j < b.ctrs.length->okCtr (ctB b j)=true):(0:Int)=checkB b:=by
 have e1:b.lines.all okLn=true:=all_idx _ default _ h1
 have e2:(List.range b.shown.length).all (okShn b)=true:=by rw [List.all_eq_true]; intro x hx; exact h2 x (List.mem_range.1 hx)
 have e3:b.ctrs.all okCtr=true:=all_idx _ default _ h3
 unfold checkB okBook
 rw [h0,e1,e2,e3]; rfl
theorem head8 (b:Book):(bif bif bif bif decide (3 < (b.lines.length:Int)) then true else decide (6 < (b.shown.length:Int)) then true else decide (3 < (b.ctrs.length:Int)) then true else !within b.rate 0 9 then true else !within b.rep 0 b.rate) = !okHeadB b:=by
 unfold okHeadB
 cases within b.rate 0 9 <;> cases within b.rep 0 b.rate <;> by_cases h1:(3:Int) < b.lines.length <;> by_cases h2:(6:Int) < b.shown.length <;> by_cases h3:(3:Int) < b.ctrs.length <;> simp [h1,h2,h3] <;> omega
theorem ln8 (s:Span):(bif !within s.lo 0 s.hi then true else decide (9 < s.hi)) = !okLn s:=by
 unfold okLn isSpan within
 rw [Bool.eq_iff_iff]
 simp
 omega
theorem ct8 (c:Ctr):(bif bif bif !within c.frm 0 13 then true else !within c.days 1 7 then true else !within c.room 0 99 then true else !within c.pence 0 99) = !okCtr c:=by
 unfold okCtr
 cases within c.frm 0 13 <;> cases within c.days 1 7 <;> cases within c.room 0 99 <;> rfl
theorem new8 (b:Book) (x:Nat) (hx:x<=b.shown.length):hasG (b.shown.take x) (shB b x) = !(List.range x).all fun k => !decide (shB b k=shB b x):=by
 rw [Bool.eq_iff_iff]
 unfold hasG
 rw [List.any_eq_true,Bool.not_eq_true',List.all_eq_false]
 constructor
 ·rintro ⟨y,hy,h⟩
  obtain ⟨i,hi,e⟩:=List.getElem_of_mem hy
  rw [List.length_take] at hi
  refine ⟨i,List.mem_range.2 (by omega),?_⟩
  rw [List.getElem_take] at e
  have e2:shB b i=y:=by unfold shB; rw [getD_lt _ _ (by omega)]; exact e
  rw [e2,h]; simp
 ·rintro ⟨k,hk,h⟩
  have hk:=List.mem_range.1 hk
  refine ⟨shB b k,?_,by simpa using h⟩
  rw [List.mem_take_iff_getElem]
  exact ⟨k,by omega,by unfold shB; rw [getD_lt _ _ (by omega)]⟩
theorem sh8 (b:Book) (x:Nat) (hx:x<=b.shown.length):(bif bif bif !within (shB b x).ad 0 ((b.lines.length:Int) - 1) then true else !within (shB b x).day 0 13 then true else !within (shB b x).ed 0 2 then true else hasG (b.shown.take x) (shB b x)) = !okShn b x:=by
 rw [new8 b x hx]
 unfold okShn isAd
 cases within (shB b x).ad 0 ((b.lines.length:Int) - 1) <;> cases within (shB b x).day 0 13 <;> cases within (shB b x).ed 0 2 <;> rfl
theorem shn_eq (x y:Shn):(decide (x.ad=y.ad) && (decide (x.day=y.day) && (decide (x.ed=y.ed) && true)))=decide (y=x):=by
 rw [Bool.eq_iff_iff]
 simp only [Bool.and_true,Bool.and_eq_true,decide_eq_true_eq]
 constructor
 ·rintro ⟨h1,h2,h3⟩; cases x; cases y; simp only at h1 h2 h3; subst h1; subst h2; subst h3; rfl
 ·rintro rfl; exact ⟨rfl,rfl,rfl⟩
theorem sday_eq (x y:Sday):(decide (x.ad=y.ad) && (decide (x.day=y.day) && true))=decide (y=x):=by
 rw [Bool.eq_iff_iff]
 simp only [Bool.and_true,Bool.and_eq_true,decide_eq_true_eq]
 constructor
 ·rintro ⟨h1,h2⟩; cases x; cases y; simp only at h1 h2; subst h1; subst h2; rfl
 ·rintro rfl; exact ⟨rfl,rfl⟩
theorem take_getD {α:Type} (d:α) (l:List α) {x i:Nat} (h:i < x):(l.take x).getD i d=l.getD i d:=by
 rw [List.getD_eq_getElem?_getD,List.getD_eq_getElem?_getD,List.getElem?_take,if_pos h]
theorem w62 (n:Int) (lo:Int) (hi:Int)
  (o0:(bif decide (lo<=n) then decide (n<=hi) else false)=within n lo hi) :
  Triple Tryz.prog 62 (s62 n lo hi):=by
 refine triple_of Tryz.func62 rfl Tryz.call62 T0_ok _ rfl rfl rfl rfl (Nat.le_of_ble_eq_true (by kernel_rfl)) (fun _ _ _ _ h=>h) ?_
 intro _ C hC _ hE
 obtain ⟨P,w0,E0,av,hA,ro,df⟩:=C
 obtain ⟨rfl,rfl,rfl⟩:=hC
 refine swp_seq ?_
 refine zR [0,1,2] [] (Ak 1 tv) ?_
 refine swp_seq ?_
 refine zR [6] [] (Ak 4 (An (fun (y0:decide (lo<=n)=true)=>(An (Ak 1 tv) tv)) (An (fun (y1:decide (lo<=n)=true)=>(An (Ak 1 tv) tv)) (An (fun (y2:decide (lo<=n)=true)=>(An (An (fun (y3:decide (lo<=n)=true)=>y2) (An (fun (y4:decide (lo<=n)=true)=>y2) tv)) tv)) (An (An (fun (y5:decide (lo<=n)=true)=>y5) (fun (y6:decide (lo<=n)=false)=>tv)) (Ak 1 tv)))))) ?_
 refine swp_ret ?_
 exact zT [] (An (Ak 1 tv) (An (An (cb (o0)) (zr nilN)) (An (zr true) (An (zr true) (zr true)))))
theorem t62 (n lo hi:Int):Triple Tryz.prog 62 (s62 n lo hi):=by
 refine w62 n lo hi ?_
 unfold within; cases decide (lo<=n) <;> rfl
theorem w52 (n:Int) (lo:Int) (hi:Int) :
  Triple Tryz.prog 52 (s52 n lo hi):=by
 refine triple_of Tryz.func52 rfl Tryz.call52 T0_ok _ rfl rfl rfl rfl (Nat.le_of_ble_eq_true (by kernel_rfl)) (fun _ _ _ _ h=>h) ?_
 intro _ C hC _ hE
 obtain ⟨P,w0,E0,av,hA,ro,df⟩:=C
 obtain ⟨rfl,rfl,rfl⟩:=hC
 refine swp_seq ?_
 refine zR [0,1,2] [] (Ak 1 tv) ?_
 refine swp_seq ?_
 refine zC ([(3,CallSpec.eq (s80 n lo hi) [true,true,true])]) [6] [] (Ak 3 (An (An (An (zr (iv n)) (An (zr (iv lo)) (An (zr (iv hi)) tv))) (An (t80 (n) (lo) (hi)) (Ak 2 (fun (i0:Env)=>tv)))) (Ak 1 tv))) ?_
 refine swp_ret ?_
 exact zT [] (An (Ak 1 tv) (An (An (zr (bv (within n lo hi))) (zr nilN)) (An (zr true) (An (zr true) (zr true)))))
theorem t52 (n lo hi:Int):Triple Tryz.prog 52 (s52 n lo hi):=by
 apply w52
theorem w38 (b:Book) (n:Int)
  (o0:fitsB b->inI ((↑(b.ctrs.length):Int) - 1))
  (o1:fitsB b->within n 0 ((↑(b.ctrs.length):Int) - 1)=isCt b n) :
  Triple Tryz.prog 38 (s38 b n):=by
 refine triple_of Tryz.func38 rfl Tryz.call38 T0_ok _ rfl rfl rfl rfl (Nat.le_of_ble_eq_true (by kernel_rfl)) (fun _ _ _ _ h=>h) ?_
 intro hpre C hC _ hE
 obtain ⟨P,w0,E0,av,hA,ro,df⟩:=C
 obtain ⟨rfl,rfl,rfl⟩:=hC
 refine swp_seq ?_
 refine zR [1,2] [0] (Ak 2 tv) ?_
 refine swp_seq ?_
 refine zC ([(5,CallSpec.eq (s62 n 0 ((↑(b.ctrs.length):Int) - 1)) [true,true,true])]) [4] [] (Ak 4 (An (o0 hpre) (An (An (An (zr (iv n)) (An (zr (iv 0)) (An (zr (iv ((↑(b.ctrs.length):Int) - 1))) tv))) (An (t62 (n) (0) ((↑(b.ctrs.length):Int) - 1)) (Ak 2 (fun (i0:Env)=>tv)))) (Ak 1 tv)))) ?_
 refine swp_ret ?_
 exact zT [] (An (Ak 1 tv) (An (An (cb (o1 hpre)) (zr nilN)) (An (zr true) (An (zr true) (zr true)))))
theorem t38 (b:Book) (n:Int):Triple Tryz.prog 38 (s38 b n):=by
 apply w38
 all_goals (intro hp; first | rfl | (simp only [fitsB,big,inI] at *; omega))
theorem w41 (b:Book) (n:Int)
  (o0:fitsB b->inI ((↑(b.ctrs.length):Int) - 1))
  (o1:fitsB b->within n 0 ((↑(b.ctrs.length):Int) - 1)=isCt b n) :
  Triple Tryz.prog 41 (s41 b n):=by
 refine triple_of Tryz.func41 rfl Tryz.call41 T0_ok _ rfl rfl rfl rfl (Nat.le_of_ble_eq_true (by kernel_rfl)) (fun _ _ _ _ h=>h) ?_
 intro hpre C hC _ hE
 obtain ⟨P,w0,E0,av,hA,ro,df⟩:=C
 obtain ⟨rfl,rfl,rfl⟩:=hC
 refine swp_seq ?_
 refine zR [1,2] [0] (Ak 2 tv) ?_
 refine swp_seq ?_
 refine zC ([(5,CallSpec.eq (s52 n 0 ((↑(b.ctrs.length):Int) - 1)) [true,true,true])]) [4] [] (Ak 4 (An (o0 hpre) (An (An (An (zr (iv n)) (An (zr (iv 0)) (An (zr (iv ((↑(b.ctrs.length):Int) - 1))) tv))) (An (t52 (n) (0) ((↑(b.ctrs.length):Int) - 1)) (Ak 2 (fun (i0:Env)=>tv)))) (Ak 1 tv)))) ?_
 refine swp_ret ?_
 exact zT [] (An (Ak 1 tv) (An (An (cb (o1 hpre)) (zr nilN)) (An (zr true) (An (zr true) (zr true)))))
theorem t41 (b:Book) (n:Int):Triple Tryz.prog 41 (s41 b n):=by
 apply w41
 all_goals (intro hp; first | rfl | (simp only [fitsB,big,inI] at *; omega))
theorem w54 (b:Book) (n:Int)
  (o0:fitsB b->inI ((↑(b.lines.length):Int) - 1))
  (o1:fitsB b->within n 0 ((↑(b.lines.length):Int) - 1)=isAd b n) :
  Triple Tryz.prog 54 (s54 b n):=by
 refine triple_of Tryz.func54 rfl Tryz.call54 T0_ok _ rfl rfl rfl rfl (Nat.le_of_ble_eq_true (by kernel_rfl)) (fun _ _ _ _ h=>h) ?_
 intro hpre C hC _ hE
 obtain ⟨P,w0,E0,av,hA,ro,df⟩:=C
 obtain ⟨rfl,rfl,rfl⟩:=hC
 refine swp_seq ?_
 refine zR [1,2] [0] (Ak 2 tv) ?_
 refine swp_seq ?_
 refine zC ([(5,CallSpec.eq (s52 n 0 ((↑(b.lines.length):Int) - 1)) [true,true,true])]) [4] [] (Ak 4 (An (o0 hpre) (An (An (An (zr (iv n)) (An (zr (iv 0)) (An (zr (iv ((↑(b.lines.length):Int) - 1))) tv))) (An (t52 (n) (0) ((↑(b.lines.length):Int) - 1)) (Ak 2 (fun (i0:Env)=>tv)))) (Ak 1 tv)))) ?_
 refine swp_ret ?_
 exact zT [] (An (Ak 1 tv) (An (An (cb (o1 hpre)) (zr nilN)) (An (zr true) (An (zr true) (zr true)))))
theorem t54 (b:Book) (n:Int):Triple Tryz.prog 54 (s54 b n):=by
 apply w54
 all_goals (intro hp; first | rfl | (simp only [fitsB,big,inI] at *; omega))
abbrev q8 (l:List Shn) (P:Prop):Prop:=l.length<=65536->P
abbrev q9 (l:List Shn) (x:Shn) (x0:Nat) (P:Prop):Prop:=(x0<=l.length /\ ∀ (j:Nat),j < x0->decide (l.getD j default=x)=false)->P
abbrev qa (l:List Shn) (x:Shn) (x0:Nat) (P:Prop):Prop:=q9 l x x0 (decide ((x0:Int) < (↑(l.length):Int))=true->P)
abbrev qb (l:List Shn) (x:Shn) (x0:Nat) (P:Prop):Prop:=qa l x x0 ((decide (x.ad=(l.getD x0 default).ad) && (decide (x.day=(l.getD x0 default).day) && (decide (x.ed=(l.getD x0 default).ed) && true)))=false->P)
theorem w99 (l:List Shn) (x:Shn)
 (o0:List.length l<=65536->0=(↑0:Int))
 (o1:q8 l (0<=l.length /\ ∀ (j:Nat),j < 0->decide (l.getD j default=x)=false))
 (o2:q8 l (∀ (x0:Nat),qa l x x0 (0<=(x0:Int))))
 (o3:q8 l (∀ (x0:Nat),qa l x x0 ((x0:Int) < (↑(l.length):Int))))
 (o4:q8 l (∀ (x0:Nat),qa l x x0 ((decide (x.ad=(l.getD x0 default).ad) && (decide (x.day=(l.getD x0 default).day) && (decide (x.ed=(l.getD x0 default).ed) && true)))=true->(x0:Int)=idxG l x)))
 (o5:q8 l (∀ (x0:Nat),qb l x x0 (inI ((x0:Int) + 1))))
 (o6:q8 l (∀ (x0:Nat),qb l x x0 ((x0:Int) + 1=(↑(x0 + 1):Int))))
 (o7:q8 l (∀ (x0:Nat),qb l x x0 (x0 + 1<=l.length /\ ∀ (j:Nat),j < x0 + 1->decide (l.getD j default=x)=false)))
 (o8:q8 l (∀ (x0:Nat),qb l x x0 (l.length - (x0 + 1) < l.length - x0)))
 (o9:q8 l (∀ (x0:Nat),q9 l x x0 (decide ((x0:Int) < (↑(l.length):Int))=false -> -1=idxG l x))) :
  Triple Tryz.prog 99 (s99 l x):=by
 refine triple_of Tryz.func99 rfl Tryz.call99 T0_ok _ rfl rfl rfl rfl (Nat.le_of_ble_eq_true (by kernel_rfl)) (fun _ _ _ _ h=>h) ?_
 intro hpre C hC _ hE
 obtain ⟨P,w0,E0,av,hA,ro,df⟩:=C
 obtain ⟨rfl,rfl,rfl⟩:=hC
 refine swp_seq ?_
 refine zR [0,3] [0] (Ak 2 tv) ?_
 refine swp_seq ?_
 refine swp_seq ?_
 refine zR [0,3,7,8] [0] (Ak 3 tv) ?_
 refine swp_block ?_
 refine zL (Hint.ann (h99 l x) [(0,aShns l),(3,AV.ptr 0 []),(7,iv (↑(l.length):Int))] [(0,OB.cells 74 (cShn x))] 10040) (zE hE [] [(0,.same 0)] [0,7] [0] (An (An (An (zr (aShns l)) (zr true)) (An (An (zr (some (Src.same 0))) (zr nilP)) (An (An (zr (iv (↑(l.length):Int))) (zr true)) (An (An (ci (o0 hpre)) (zr nilN)) tv)))) (An (An (An (zr (OB.cells 74 (cShn x))) (zr true)) tv) (An (zr true) (zr true))))) (o1 hpre) (fun (x0:Nat) hx0 => ?_)
 refine swp_seq ?_
 refine zR [0,3,7,8,9] [0] (Ak 1 tv) ?_
 refine swp_seq ?_
 refine zI (decide ((x0:Int) < (↑(l.length):Int))) (fun y1 => ?_) (fun y1 => ?_)
 ·refine swp_skip ?_
  refine swp_seq ?_
  refine swp_block ?_
  refine swp_seq ?_
  refine zR [0,3,7,8,5] [0] (Ak 2 tv) ?_
  refine swp_seq ?_
  refine zR [0,3,7,8,5,16] [0] (Ak 3 (An (An (o2 hpre x0 hx0 y1) (o3 hpre x0 hx0 y1)) (Ak 2 tv))) ?_
  refine zI (decide (x.ad=(l.getD x0 default).ad) && (decide (x.day=(l.getD x0 default).day) && (decide (x.ed=(l.getD x0 default).ed) && true))) (fun y2 => ?_) (fun y2 => ?_)
  ·refine swp_seq ?_
   refine zR [4] [] (Ak 2 tv) ?_
   refine swp_ret ?_
   exact zT [] (An (Ak 1 tv) (An (An (ci (o4 hpre x0 hx0 y1 y2)) (zr nilN)) (An (zr true) (An (zr true) (zr true)))))
  ·refine swp_skip ?_
   refine zR [0,3,7,8] [0] (An (o5 hpre x0 hx0 y1 y2) (Ak 1 tv)) ?_
   exact zn (zE hE [] [(0,.same 0)] [0,7] [0] (An (An (An (zr (aShns l)) (zr true)) (An (An (zr (some (Src.same 0))) (zr nilP)) (An (An (zr (iv (↑(l.length):Int))) (zr true)) (An (An (ci (o6 hpre x0 hx0 y1 y2)) (zr nilN)) tv)))) (An (An (An (zr (OB.cells 74 (cShn x))) (zr true)) tv) (An (zr true) (zr true))))) (o7 hpre x0 hx0 y1 y2) (o8 hpre x0 hx0 y1 y2)
 ·refine swp_exit ?_
  refine swp_seq ?_
  refine zR [4] [] (Ak 1 tv) ?_
  refine swp_ret ?_
  exact zT [] (An (Ak 1 tv) (An (An (ci (o9 hpre x0 hx0 y1)) (zr nilN)) (An (zr true) (An (zr true) (zr true)))))
theorem t99 (l:List Shn) (x:Shn):Triple Tryz.prog 99 (s99 l x):=by
 apply w99
 all_goals (try delta q8 q9 qa qb)
 case o4=>intro hp i hi hl h; rw [shn_eq] at h; simp only [decide_eq_true_eq] at hl; exact (idxG_found default (by omega) hi.2 h).symm
 case o7=>intro hp i hi hl h; rw [shn_eq] at h; simp only [decide_eq_true_eq] at hl; exact ⟨by omega,lt_succ_cases hi.2 h⟩
 case o9=>intro hp i hi hl; simp only [decide_eq_false_iff_not] at hl; exact (idxG_none default fun j hj=>hi.2 j (by omega)).symm
 all_goals (try ((repeat intro _) <;> (try simp only [Bool.cond_true_left,Bool.cond_false_right,Bool.not_not,Bool.not_eq_true',Bool.not_eq_false',Bool.or_eq_true,Bool.or_eq_false_iff,Bool.and_eq_true,decide_eq_true_eq,decide_eq_false_iff_not,inI,big] at *) <;> first | (exact rfl) | omega | (exact ⟨Nat.zero_le _,fun j hj=>absurd hj (Nat.not_lt_zero j)⟩) | (simp_all; done) | (simp_all; omega)))
theorem w86 (l:List Shn) (x:Shn)
  (o0:l.length<=65536->decide (0<=idxG l x)=hasG l x) :
  Triple Tryz.prog 86 (s86 l x):=by
 refine triple_of Tryz.func86 rfl Tryz.call86 T0_ok _ rfl rfl rfl rfl (Nat.le_of_ble_eq_true (by kernel_rfl)) (fun _ _ _ _ h=>h) ?_
 intro hpre C hC _ hE
 obtain ⟨P,w0,E0,av,hA,ro,df⟩:=C
 obtain ⟨rfl,rfl,rfl⟩:=hC
 refine swp_seq ?_
 refine zR [0,3] [0] (Ak 2 tv) ?_
 refine swp_seq ?_
 refine zC ([(2,CallSpec.eq (s99 l x) [true,true])]) [4] [] (Ak 2 (An (An (An (zr (aShns l)) (An (zr (AV.agg (cShn x))) tv)) (An (t99 (l) (x)) (An hpre (Ak 1 (fun (i0:Env)=>tv))))) (Ak 2 tv))) ?_
 refine swp_ret ?_
 exact zT [] (An (Ak 1 tv) (An (An (cb (o0 hpre)) (zr nilN)) (An (zr true) (An (zr true) (zr true)))))
theorem t86 (l:List Shn) (x:Shn):Triple Tryz.prog 86 (s86 l x):=by
 apply w86
 intro _; exact idxG_has l x
abbrev qc (l:List Sday) (P:Prop):Prop:=l.length<=65536->P
abbrev qd (l:List Sday) (x:Sday) (x0:Nat) (P:Prop):Prop:=(x0<=l.length /\ ∀ (j:Nat),j < x0->decide (l.getD j default=x)=false)->P
abbrev qe (l:List Sday) (x:Sday) (x0:Nat) (P:Prop):Prop:=qd l x x0 (decide ((x0:Int) < (↑(l.length):Int))=true->P)
abbrev qf (l:List Sday) (x:Sday) (x0:Nat) (P:Prop):Prop:=qe l x x0 ((decide (x.ad=(l.getD x0 default).ad) && (decide (x.day=(l.getD x0 default).day) && true))=false->P)
theorem w82 (l:List Sday) (x:Sday)
 (o0:List.length l<=65536->0=(↑0:Int))
 (o1:qc l (0<=l.length /\ ∀ (j:Nat),j < 0->decide (l.getD j default=x)=false))
 (o2:qc l (∀ (x0:Nat),qe l x x0 (0<=(x0:Int))))
 (o3:qc l (∀ (x0:Nat),qe l x x0 ((x0:Int) < (↑(l.length):Int))))
 (o4:qc l (∀ (x0:Nat),qe l x x0 ((decide (x.ad=(l.getD x0 default).ad) && (decide (x.day=(l.getD x0 default).day) && true))=true->(x0:Int)=idxG l x)))
 (o5:qc l (∀ (x0:Nat),qf l x x0 (inI ((x0:Int) + 1))))
 (o6:qc l (∀ (x0:Nat),qf l x x0 ((x0:Int) + 1=(↑(x0 + 1):Int))))
 (o7:qc l (∀ (x0:Nat),qf l x x0 (x0 + 1<=l.length /\ ∀ (j:Nat),j < x0 + 1->decide (l.getD j default=x)=false)))
 (o8:qc l (∀ (x0:Nat),qf l x x0 (l.length - (x0 + 1) < l.length - x0)))
 (o9:qc l (∀ (x0:Nat),qd l x x0 (decide ((x0:Int) < (↑(l.length):Int))=false -> -1=idxG l x))) :
  Triple Tryz.prog 82 (s82 l x):=by
 refine triple_of Tryz.func82 rfl Tryz.call82 T0_ok _ rfl rfl rfl rfl (Nat.le_of_ble_eq_true (by kernel_rfl)) (fun _ _ _ _ h=>h) ?_
 intro hpre C hC _ hE
 obtain ⟨P,w0,E0,av,hA,ro,df⟩:=C
 obtain ⟨rfl,rfl,rfl⟩:=hC
 refine swp_seq ?_
 refine zR [0,3] [0] (Ak 2 tv) ?_
 refine swp_seq ?_
 refine swp_seq ?_
 refine zR [0,3,7,8] [0] (Ak 3 tv) ?_
 refine swp_block ?_
 refine zL (Hint.ann (h82 l x) [(0,aDays l),(3,AV.ptr 0 []),(7,iv (↑(l.length):Int))] [(0,OB.cells 54 (cSday x))] 10040) (zE hE [] [(0,.same 0)] [0,7] [0] (An (An (An (zr (aDays l)) (zr true)) (An (An (zr (some (Src.same 0))) (zr nilP)) (An (An (zr (iv (↑(l.length):Int))) (zr true)) (An (An (ci (o0 hpre)) (zr nilN)) tv)))) (An (An (An (zr (OB.cells 54 (cSday x))) (zr true)) tv) (An (zr true) (zr true))))) (o1 hpre) (fun (x0:Nat) hx0 => ?_)
 refine swp_seq ?_
 refine zR [0,3,7,8,9] [0] (Ak 1 tv) ?_
 refine swp_seq ?_
 refine zI (decide ((x0:Int) < (↑(l.length):Int))) (fun y1 => ?_) (fun y1 => ?_)
 ·refine swp_skip ?_
  refine swp_seq ?_
  refine swp_block ?_
  refine swp_seq ?_
  refine zR [0,3,7,8,5] [0] (Ak 2 tv) ?_
  refine swp_seq ?_
  refine zR [0,3,7,8,5,16] [0] (Ak 3 (An (An (o2 hpre x0 hx0 y1) (o3 hpre x0 hx0 y1)) (Ak 2 tv))) ?_
  refine zI (decide (x.ad=(l.getD x0 default).ad) && (decide (x.day=(l.getD x0 default).day) && true)) (fun y2 => ?_) (fun y2 => ?_)
  ·refine swp_seq ?_
   refine zR [4] [] (Ak 2 tv) ?_
   refine swp_ret ?_
   exact zT [] (An (Ak 1 tv) (An (An (ci (o4 hpre x0 hx0 y1 y2)) (zr nilN)) (An (zr true) (An (zr true) (zr true)))))
  ·refine swp_skip ?_
   refine zR [0,3,7,8] [0] (An (o5 hpre x0 hx0 y1 y2) (Ak 1 tv)) ?_
   exact zn (zE hE [] [(0,.same 0)] [0,7] [0] (An (An (An (zr (aDays l)) (zr true)) (An (An (zr (some (Src.same 0))) (zr nilP)) (An (An (zr (iv (↑(l.length):Int))) (zr true)) (An (An (ci (o6 hpre x0 hx0 y1 y2)) (zr nilN)) tv)))) (An (An (An (zr (OB.cells 54 (cSday x))) (zr true)) tv) (An (zr true) (zr true))))) (o7 hpre x0 hx0 y1 y2) (o8 hpre x0 hx0 y1 y2)
 ·refine swp_exit ?_
  refine swp_seq ?_
  refine zR [4] [] (Ak 1 tv) ?_
  refine swp_ret ?_
  exact zT [] (An (Ak 1 tv) (An (An (ci (o9 hpre x0 hx0 y1)) (zr nilN)) (An (zr true) (An (zr true) (zr true)))))
theorem t82 (l:List Sday) (x:Sday):Triple Tryz.prog 82 (s82 l x):=by
 apply w82
 all_goals (try delta qc qd qe qf)
 case o4=>intro hp i hi hl h; rw [sday_eq] at h; simp only [decide_eq_true_eq] at hl; exact (idxG_found default (by omega) hi.2 h).symm
 case o7=>intro hp i hi hl h; rw [sday_eq] at h; simp only [decide_eq_true_eq] at hl; exact ⟨by omega,lt_succ_cases hi.2 h⟩
 case o9=>intro hp i hi hl; simp only [decide_eq_false_iff_not] at hl; exact (idxG_none default fun j hj=>hi.2 j (by omega)).symm
 all_goals (try ((repeat intro _) <;> (try simp only [Bool.cond_true_left,Bool.cond_false_right,Bool.not_not,Bool.not_eq_true',Bool.not_eq_false',Bool.or_eq_true,Bool.or_eq_false_iff,Bool.and_eq_true,decide_eq_true_eq,decide_eq_false_iff_not,inI,big] at *) <;> first | (exact rfl) | omega | (exact ⟨Nat.zero_le _,fun j hj=>absurd hj (Nat.not_lt_zero j)⟩) | (simp_all; done) | (simp_all; omega)))
theorem w59 (l:List Sday) (x:Sday)
  (o0:l.length<=65536->decide (0<=idxG l x)=hasG l x) :
  Triple Tryz.prog 59 (s59 l x):=by
 refine triple_of Tryz.func59 rfl Tryz.call59 T0_ok _ rfl rfl rfl rfl (Nat.le_of_ble_eq_true (by kernel_rfl)) (fun _ _ _ _ h=>h) ?_
 intro hpre C hC _ hE
 obtain ⟨P,w0,E0,av,hA,ro,df⟩:=C
 obtain ⟨rfl,rfl,rfl⟩:=hC
 refine swp_seq ?_
 refine zR [0,3] [0] (Ak 2 tv) ?_
 refine swp_seq ?_
 refine zC ([(2,CallSpec.eq (s82 l x) [true,true])]) [4] [] (Ak 2 (An (An (An (zr (aDays l)) (An (zr (AV.agg (cSday x))) tv)) (An (t82 (l) (x)) (An hpre (Ak 1 (fun (i0:Env)=>tv))))) (Ak 2 tv))) ?_
 refine swp_ret ?_
 exact zT [] (An (Ak 1 tv) (An (An (cb (o0 hpre)) (zr nilN)) (An (zr true) (An (zr true) (zr true)))))
theorem t59 (l:List Sday) (x:Sday):Triple Tryz.prog 59 (s59 l x):=by
 apply w59
 intro _; exact idxG_has l x
abbrev qg (l:List Int) (P:Prop):Prop:=l.length<=65536->P
abbrev qh (l:List Int) (x:Int) (x0:Nat) (P:Prop):Prop:=(x0<=l.length /\ ∀ (j:Nat),j < x0->decide (l.getD j 0=x)=false)->P
abbrev qi (l:List Int) (x:Int) (x0:Nat) (P:Prop):Prop:=qh l x x0 (decide ((x0:Int) < (↑(l.length):Int))=true->P)
theorem w79 (l:List Int) (x:Int)
 (o0:List.length l<=65536->0=(↑0:Int))
 (o1:qg l (0<=l.length /\ ∀ (j:Nat),j < 0->decide (l.getD j 0=x)=false))
 (o2:qg l (∀ (x0:Nat),qi l x x0 (0<=(x0:Int))))
 (o3:qg l (∀ (x0:Nat),qi l x x0 ((x0:Int) < (↑(l.length):Int))))
 (o4:qg l (∀ (x0:Nat),qi l x x0 (decide (x=l.getD x0 0)=true->(x0:Int)=idxG l x)))
 (o5:qg l (∀ (x0:Nat),qi l x x0 (decide (x=l.getD x0 0)=false->inI ((x0:Int) + 1))))
 (o6:qg l (∀ (x0:Nat),qi l x x0 (decide (x=l.getD x0 0)=false->(x0:Int) + 1=(↑(x0 + 1):Int))))
 (o7:qg l (∀ (x0:Nat),qi l x x0 (decide (x=l.getD x0 0)=false->x0 + 1<=l.length /\ ∀ (j:Nat),j < x0 + 1->decide (l.getD j 0=x)=false)))
 (o8:qg l (∀ (x0:Nat),qi l x x0 (decide (x=l.getD x0 0)=false->l.length - (x0 + 1) < l.length - x0)))
 (o9:qg l (∀ (x0:Nat),qh l x x0 (decide ((x0:Int) < (↑(l.length):Int))=false -> -1=idxG l x))) :
  Triple Tryz.prog 79 (s79 l x):=by
 refine triple_of Tryz.func79 rfl Tryz.call79 T0_ok _ rfl rfl rfl rfl (Nat.le_of_ble_eq_true (by kernel_rfl)) (fun _ _ _ _ h=>h) ?_
 intro hpre C hC _ hE
 obtain ⟨P,w0,E0,av,hA,ro,df⟩:=C
 obtain ⟨rfl,rfl,rfl⟩:=hC
 refine swp_seq ?_
 refine zR [0,1] [] (Ak 1 tv) ?_
 refine swp_seq ?_
 refine swp_seq ?_
 refine zR [0,1,7,8] [] (Ak 3 tv) ?_
 refine swp_block ?_
 refine zL (Hint.ann (h79 l x) [(0,aInts l),(1,iv x),(7,iv (↑(l.length):Int))] [] 10032) (zE hE [] [] [0,1,7] [] (An (An (An (zr (aInts l)) (zr true)) (An (An (zr (iv x)) (zr true)) (An (An (zr (iv (↑(l.length):Int))) (zr true)) (An (An (ci (o0 hpre)) (zr nilN)) tv)))) (Ak 1 (An (zr true) (zr true))))) (o1 hpre) (fun (x0:Nat) hx0 => ?_)
 refine swp_seq ?_
 refine zR [0,1,7,8,9] [] (Ak 1 tv) ?_
 refine swp_seq ?_
 refine zI (decide ((x0:Int) < (↑(l.length):Int))) (fun y1 => ?_) (fun y1 => ?_)
 ·refine swp_skip ?_
  refine swp_seq ?_
  refine swp_block ?_
  refine swp_seq ?_
  refine zR [0,1,7,8,5] [] (Ak 2 tv) ?_
  refine swp_seq ?_
  refine zR [0,1,7,8,5,16] [] (Ak 3 (An (An (o2 hpre x0 hx0 y1) (o3 hpre x0 hx0 y1)) (Ak 2 tv))) ?_
  refine zI (decide (x=l.getD x0 0)) (fun y2 => ?_) (fun y2 => ?_)
  ·refine swp_seq ?_
   refine zR [4] [] (Ak 2 tv) ?_
   refine swp_ret ?_
   exact zT [] (An (Ak 1 tv) (An (An (ci (o4 hpre x0 hx0 y1 y2)) (zr nilN)) (An (zr true) (An (zr true) (zr true)))))
  ·refine swp_skip ?_
   refine zR [0,1,7,8] [] (An (o5 hpre x0 hx0 y1 y2) (Ak 1 tv)) ?_
   exact zn (zE hE [] [] [0,1,7] [] (An (An (An (zr (aInts l)) (zr true)) (An (An (zr (iv x)) (zr true)) (An (An (zr (iv (↑(l.length):Int))) (zr true)) (An (An (ci (o6 hpre x0 hx0 y1 y2)) (zr nilN)) tv)))) (Ak 1 (An (zr true) (zr true))))) (o7 hpre x0 hx0 y1 y2) (o8 hpre x0 hx0 y1 y2)
 ·refine swp_exit ?_
  refine swp_seq ?_
  refine zR [4] [] (Ak 1 tv) ?_
  refine swp_ret ?_
  exact zT [] (An (Ak 1 tv) (An (An (ci (o9 hpre x0 hx0 y1)) (zr nilN)) (An (zr true) (An (zr true) (zr true)))))
theorem t79 (l:List Int) (x:Int):Triple Tryz.prog 79 (s79 l x):=by
 apply w79
 all_goals (try delta qg qh qi)
 case o4=>intro hp i hi hl h; simp only [decide_eq_true_eq] at hl h; exact (idxG_found 0 (by omega) hi.2 (decide_eq_true h.symm)).symm
 case o7=>intro hp i hi hl h; simp only [decide_eq_true_eq,decide_eq_false_iff_not] at hl h; exact ⟨by omega,lt_succ_cases hi.2 (decide_eq_false fun e=>h e.symm)⟩
 case o9=>intro hp i hi hl; simp only [decide_eq_false_iff_not] at hl; exact (idxG_none 0 fun j hj=>hi.2 j (by omega)).symm
 all_goals (try ((repeat intro _) <;> (try simp only [Bool.cond_true_left,Bool.cond_false_right,Bool.not_not,Bool.not_eq_true',Bool.not_eq_false',Bool.or_eq_true,Bool.or_eq_false_iff,Bool.and_eq_true,decide_eq_true_eq,decide_eq_false_iff_not,inI,big] at *) <;> first | (exact rfl) | omega | (exact ⟨Nat.zero_le _,fun j hj=>absurd hj (Nat.not_lt_zero j)⟩) | (simp_all; done) | (simp_all; omega)))
theorem w47 (l:List Int) (x:Int)
  (o0:l.length<=65536->decide (0<=idxG l x)=hasG l x) :
  Triple Tryz.prog 47 (s47 l x):=by
 refine triple_of Tryz.func47 rfl Tryz.call47 T0_ok _ rfl rfl rfl rfl (Nat.le_of_ble_eq_true (by kernel_rfl)) (fun _ _ _ _ h=>h) ?_
 intro hpre C hC _ hE
 obtain ⟨P,w0,E0,av,hA,ro,df⟩:=C
 obtain ⟨rfl,rfl,rfl⟩:=hC
 refine swp_seq ?_
 refine zR [0,1] [] (Ak 1 tv) ?_
 refine swp_seq ?_
 refine zC ([(2,CallSpec.eq (s79 l x) [true,true])]) [4] [] (Ak 2 (An (An (An (zr (aInts l)) (An (zr (iv x)) tv)) (An (t79 (l) (x)) (An hpre (Ak 1 (fun (i0:Env)=>tv))))) (Ak 2 tv))) ?_
 refine swp_ret ?_
 exact zT [] (An (Ak 1 tv) (An (An (cb (o0 hpre)) (zr nilN)) (An (zr true) (An (zr true) (zr true)))))
theorem t47 (l:List Int) (x:Int):Triple Tryz.prog 47 (s47 l x):=by
 apply w47
 intro _; exact idxG_has l x
abbrev qj (b:Book) (P:Prop):Prop:=smallB b->P
abbrev qk (b:Book) (P:Prop):Prop:=qj b ((bif bif bif bif decide (3 < (↑(b.lines.length):Int)) then true else decide (6 < (↑(b.shown.length):Int)) then true else decide (3 < (↑(b.ctrs.length):Int)) then true else !within b.rate 0 9 then true else !within b.rep 0 b.rate)=false->P)
abbrev ql (b:Book) (x43:Nat) (P:Prop):Prop:=(x43<=b.lines.length /\ ∀ (j:Nat),j < x43->okLn (lnB b j)=true)->P
abbrev qm (b:Book) (x43:Nat) (P:Prop):Prop:=ql b x43 (decide ((x43:Int) < (↑(b.lines.length):Int))=true->P)
abbrev qn (b:Book) (x43:Nat) (P:Prop):Prop:=qm b x43 ((bif !within (lnB b x43).lo 0 (lnB b x43).hi then true else decide (9 < (lnB b x43).hi))=false->P)
abbrev qo (b:Book) (x43:Nat) (P:Prop):Prop:=ql b x43 (decide ((x43:Int) < (↑(b.lines.length):Int))=false->P)
abbrev qp (b:Book) (x54:Nat) (P:Prop):Prop:=(x54<=b.shown.length /\ ∀ (j:Nat),j < x54->okShn b j=true)->P
abbrev qq (b:Book) (x54:Nat) (P:Prop):Prop:=qp b x54 (decide ((x54:Int) < (↑(b.shown.length):Int))=true->P)
abbrev qr (b:Book) (x54:Nat) (P:Prop):Prop:=qq b x54 ((!bif bif !within (shB b x54).ad 0 ((↑(b.lines.length):Int) - 1) then true else !within (shB b x54).day 0 13 then true else !within (shB b x54).ed 0 2)=true->P)
abbrev qs (b:Book) (x54:Nat) (P:Prop):Prop:=qq b x54 ((bif bif bif !within (shB b x54).ad 0 ((↑(b.lines.length):Int) - 1) then true else !within (shB b x54).day 0 13 then true else !within (shB b x54).ed 0 2 then true else hasG (List.take x54 b.shown) (shB b x54))=false->P)
abbrev qt (b:Book) (x54:Nat) (P:Prop):Prop:=qp b x54 (decide ((x54:Int) < (↑(b.shown.length):Int))=false->P)
abbrev qu (b:Book) (x94:Nat) (P:Prop):Prop:=(x94<=b.ctrs.length /\ ∀ (j:Nat),j < x94->okCtr (ctB b j)=true)->P
abbrev qv (b:Book) (x94:Nat) (P:Prop):Prop:=qu b x94 (decide ((x94:Int) < (↑(b.ctrs.length):Int))=true->P)
abbrev qw (b:Book) (x94:Nat) (P:Prop):Prop:=qv b x94 ((bif bif bif !within (ctB b x94).frm 0 13 then true else !within (ctB b x94).days 1 7 then true else !within (ctB b x94).room 0 99 then true else !within (ctB b x94).pence 0 99)=false->P)
theorem w72 (b:Book)
 (o0:qj b (decide (3 < (↑(b.lines.length):Int))=false->(!decide (3 < (↑(b.lines.length):Int)))=true))
 (o1:qj b ((bif decide (3 < (↑(b.lines.length):Int)) then true else decide (6 < (↑(b.shown.length):Int)))=false->(!bif decide (3 < (↑(b.lines.length):Int)) then true else decide (6 < (↑(b.shown.length):Int)))=true))
 (o2:qj b ((bif bif decide (3 < (↑(b.lines.length):Int)) then true else decide (6 < (↑(b.shown.length):Int)) then true else decide (3 < (↑(b.ctrs.length):Int)))=false->(!bif bif decide (3 < (↑(b.lines.length):Int)) then true else decide (6 < (↑(b.shown.length):Int)) then true else decide (3 < (↑(b.ctrs.length):Int)))=true))
 (o3:qj b ((bif bif bif decide (3 < (↑(b.lines.length):Int)) then true else decide (6 < (↑(b.shown.length):Int)) then true else decide (3 < (↑(b.ctrs.length):Int)) then true else !within b.rate 0 9)=false->(!bif bif bif decide (3 < (↑(b.lines.length):Int)) then true else decide (6 < (↑(b.shown.length):Int)) then true else decide (3 < (↑(b.ctrs.length):Int)) then true else !within b.rate 0 9)=true))
 (o4:qj b ((bif bif bif bif decide (3 < (↑(b.lines.length):Int)) then true else decide (6 < (↑(b.shown.length):Int)) then true else decide (3 < (↑(b.ctrs.length):Int)) then true else !within b.rate 0 9 then true else !within b.rep 0 b.rate)=true->80=checkB b))
 (o5:qk b (0=(↑0:Int)))
 (o6:qk b (0<=b.lines.length /\ ∀ (j:Nat),j < 0->okLn (lnB b j)=true))
 (o7:qk b (∀ (x43:Nat),qm b x43 (0<=(x43:Int))))
 (o8:qk b (∀ (x43:Nat),qm b x43 ((x43:Int) < (↑(b.lines.length):Int))))
 (o9:qk b (∀ (x43:Nat),qm b x43 ((!within (lnB b x43).lo 0 (lnB b x43).hi)=false->(!!within (lnB b x43).lo 0 (lnB b x43).hi)=true)))
 (o10:qk b (∀ (x43:Nat),qm b x43 ((bif !within (lnB b x43).lo 0 (lnB b x43).hi then true else decide (9 < (lnB b x43).hi))=true->80=checkB b)))
 (o11:qk b (∀ (x43:Nat),qn b x43 (inI ((x43:Int) + 1))))
 (o12:qk b (∀ (x43:Nat),qn b x43 ((x43:Int) + 1=(↑(x43 + 1):Int))))
 (o13:qk b (∀ (x43:Nat),qn b x43 (x43 + 1<=b.lines.length /\ ∀ (j:Nat),j < x43 + 1->okLn (lnB b j)=true)))
 (o14:qk b (∀ (x43:Nat),qn b x43 (b.lines.length - (x43 + 1) < b.lines.length - x43)))
 (o15:qk b (∀ (x43:Nat),qo b x43 (0=(↑0:Int))))
 (o16:qk b (∀ (x43:Nat),qo b x43 (0<=b.shown.length /\ ∀ (j:Nat),j < 0->okShn b j=true)))
 (o17:qk b (∀ (x43:Nat),qo b x43 (∀ (x54:Nat),qq b x54 (0<=(x54:Int)))))
 (o18:qk b (∀ (x43:Nat),qo b x43 (∀ (x54:Nat),qq b x54 ((x54:Int) < (↑(b.shown.length):Int)))))
 (o19:qk b (∀ (x43:Nat),qo b x43 (∀ (x54:Nat),qq b x54 (inI ((↑(b.lines.length):Int) - 1)))))
 (o20:qk b (∀ (x43:Nat),qo b x43 (∀ (x54:Nat),qq b x54 ((!within (shB b x54).ad 0 ((↑(b.lines.length):Int) - 1))=false->(!!within (shB b x54).ad 0 ((↑(b.lines.length):Int) - 1))=true))))
 (o21:qk b (∀ (x43:Nat),qo b x43 (∀ (x54:Nat),qq b x54 ((bif !within (shB b x54).ad 0 ((↑(b.lines.length):Int) - 1) then true else !within (shB b x54).day 0 13)=false->(!bif !within (shB b x54).ad 0 ((↑(b.lines.length):Int) - 1) then true else !within (shB b x54).day 0 13)=true))))
 (o22:qk b (∀ (x43:Nat),qo b x43 (∀ (x54:Nat),qr b x54 (0<=(x54:Int)))))
 (o23:qk b (∀ (x43:Nat),qo b x43 (∀ (x54:Nat),qr b x54 ((x54:Int)<=(↑(b.shown.length):Int)))))
 (o24:qk b (∀ (x43:Nat),qo b x43 (∀ (x54:Nat),qr b x54 (x54=(List.take x54 b.shown).length))))
 (o25:qk b (∀ (x43:Nat),qo b x43 (∀ (x54:Nat),qr b x54 (∀ (i88:Nat),i88 < (List.take x54 b.shown).length->cShn (shB b i88)=cShn ((List.take x54 b.shown).getD i88 default)))))
 (o26:qk b (∀ (x43:Nat),qo b x43 (∀ (x54:Nat),qr b x54 ((List.take x54 b.shown).length<=65536))))
 (o27:qk b (∀ (x43:Nat),qo b x43 (∀ (x54:Nat),qq b x54 ((bif bif !within (shB b x54).ad 0 ((↑(b.lines.length):Int) - 1) then true else !within (shB b x54).day 0 13 then true else !within (shB b x54).ed 0 2)=false->(!bif bif !within (shB b x54).ad 0 ((↑(b.lines.length):Int) - 1) then true else !within (shB b x54).day 0 13 then true else !within (shB b x54).ed 0 2)=true))))
 (o28:qk b (∀ (x43:Nat),qo b x43 (∀ (x54:Nat),qq b x54 ((bif bif bif !within (shB b x54).ad 0 ((↑(b.lines.length):Int) - 1) then true else !within (shB b x54).day 0 13 then true else !within (shB b x54).ed 0 2 then true else hasG (List.take x54 b.shown) (shB b x54))=true->80=checkB b))))
 (o29:qk b (∀ (x43:Nat),qo b x43 (∀ (x54:Nat),qs b x54 (inI ((x54:Int) + 1)))))
 (o30:qk b (∀ (x43:Nat),qo b x43 (∀ (x54:Nat),qs b x54 ((x54:Int) + 1=(↑(x54 + 1):Int)))))
 (o31:qk b (∀ (x43:Nat),qo b x43 (∀ (x54:Nat),qs b x54 (x54 + 1<=b.shown.length /\ ∀ (j:Nat),j < x54 + 1->okShn b j=true))))
 (o32:qk b (∀ (x43:Nat),qo b x43 (∀ (x54:Nat),qs b x54 (b.shown.length - (x54 + 1) < b.shown.length - x54))))
 (o33:qk b (∀ (x43:Nat),qo b x43 (∀ (x54:Nat),qt b x54 (0=(↑0:Int)))))
 (o34:qk b (∀ (x43:Nat),qo b x43 (∀ (x54:Nat),qt b x54 (0<=b.ctrs.length /\ ∀ (j:Nat),j < 0->okCtr (ctB b j)=true))))
 (o35:qk b (∀ (x43:Nat),qo b x43 (∀ (x54:Nat),qt b x54 (∀ (x94:Nat),qv b x94 (0<=(x94:Int))))))
 (o36:qk b (∀ (x43:Nat),qo b x43 (∀ (x54:Nat),qt b x54 (∀ (x94:Nat),qv b x94 ((x94:Int) < (↑(b.ctrs.length):Int))))))
 (o37:qk b (∀ (x43:Nat),qo b x43 (∀ (x54:Nat),qt b x54 (∀ (x94:Nat),qv b x94 ((!within (ctB b x94).frm 0 13)=false->(!!within (ctB b x94).frm 0 13)=true)))))
 (o38:qk b (∀ (x43:Nat),qo b x43 (∀ (x54:Nat),qt b x54 (∀ (x94:Nat),qv b x94 ((bif !within (ctB b x94).frm 0 13 then true else !within (ctB b x94).days 1 7)=false->(!bif !within (ctB b x94).frm 0 13 then true else !within (ctB b x94).days 1 7)=true)))))
 (o39:qk b (∀ (x43:Nat),qo b x43 (∀ (x54:Nat),qt b x54 (∀ (x94:Nat),qv b x94 ((bif bif !within (ctB b x94).frm 0 13 then true else !within (ctB b x94).days 1 7 then true else !within (ctB b x94).room 0 99)=false->(!bif bif !within (ctB b x94).frm 0 13 then true else !within (ctB b x94).days 1 7 then true else !within (ctB b x94).room 0 99)=true)))))
 (o40:qk b (∀ (x43:Nat),qo b x43 (∀ (x54:Nat),qt b x54 (∀ (x94:Nat),qv b x94 ((bif bif bif !within (ctB b x94).frm 0 13 then true else !within (ctB b x94).days 1 7 then true else !within (ctB b x94).room 0 99 then true else !within (ctB b x94).pence 0 99)=true->80=checkB b)))))
 (o41:qk b (∀ (x43:Nat),qo b x43 (∀ (x54:Nat),qt b x54 (∀ (x94:Nat),qw b x94 (inI ((x94:Int) + 1))))))
 (o42:qk b (∀ (x43:Nat),qo b x43 (∀ (x54:Nat),qt b x54 (∀ (x94:Nat),qw b x94 ((x94:Int) + 1=(↑(x94 + 1):Int))))))
 (o43:qk b (∀ (x43:Nat),qo b x43 (∀ (x54:Nat),qt b x54 (∀ (x94:Nat),qw b x94 (x94 + 1<=b.ctrs.length /\ ∀ (j:Nat),j < x94 + 1->okCtr (ctB b j)=true)))))
 (o44:qk b (∀ (x43:Nat),qo b x43 (∀ (x54:Nat),qt b x54 (∀ (x94:Nat),qw b x94 (b.ctrs.length - (x94 + 1) < b.ctrs.length - x94)))))
 (o45:qk b (∀ (x43:Nat),qo b x43 (∀ (x54:Nat),qt b x54 (∀ (x94:Nat),qu b x94 (decide ((x94:Int) < (↑(b.ctrs.length):Int))=false->0=checkB b))))) :
  Triple Tryz.prog 72 (s72 b):=by
 refine triple_of Tryz.func72 rfl Tryz.call72 T0_ok _ rfl rfl rfl rfl (Nat.le_of_ble_eq_true (by kernel_rfl)) (fun _ _ _ _ h=>h) ?_
 intro hpre C hC _ hE
 obtain ⟨P,w0,E0,av,hA,ro,df⟩:=C
 obtain ⟨rfl,rfl,rfl⟩:=hC
 refine swp_seq ?_
 refine zR [1] [0] (Ak 2 tv) ?_
 refine swp_seq ?_
 refine swp_seq ?_
 refine zC ([(19,CallSpec.eq (s62 b.rate 0 9) [true,true,true]),(27,CallSpec.eq (s62 b.rep 0 b.rate) [true,true,true])]) [1,38] [0] (Ak 5 (An (fun (y0:(!decide (3 < (↑(b.lines.length):Int)))=true)=>(An (Ak 1 tv) tv)) (An (fun (y1:(!decide (3 < (↑(b.lines.length):Int)))=true)=>(An (An (fun (y2:(!decide (3 < (↑(b.lines.length):Int)))=true)=>y1) tv) tv)) (An (fun (y3:(!decide (3 < (↑(b.lines.length):Int)))=true)=>(An (An (fun (y4:(!decide (3 < (↑(b.lines.length):Int)))=true)=>y3) tv) tv)) (An (fun (y5:(!decide (3 < (↑(b.lines.length):Int)))=true)=>(An (An (fun (y6:(!decide (3 < (↑(b.lines.length):Int)))=true)=>y5) (Ak 1 tv)) tv)) (An (An (fun (y7:decide (3 < (↑(b.lines.length):Int))=true)=>tv) (fun (y8:decide (3 < (↑(b.lines.length):Int))=false)=>(o0 hpre y8))) (Ak 1 (An (fun (y9:(!bif decide (3 < (↑(b.lines.length):Int)) then true else decide (6 < (↑(b.shown.length):Int)))=true)=>(An (Ak 1 tv) tv)) (An (fun (y10:(!bif decide (3 < (↑(b.lines.length):Int)) then true else decide (6 < (↑(b.shown.length):Int)))=true)=>(An (An (fun (y11:(!bif decide (3 < (↑(b.lines.length):Int)) then true else decide (6 < (↑(b.shown.length):Int)))=true)=>y10) tv) tv)) (An (fun (y12:(!bif decide (3 < (↑(b.lines.length):Int)) then true else decide (6 < (↑(b.shown.length):Int)))=true)=>(An (An (fun (y13:(!bif decide (3 < (↑(b.lines.length):Int)) then true else decide (6 < (↑(b.shown.length):Int)))=true)=>y12) tv) tv)) (An (fun (y14:(!bif decide (3 < (↑(b.lines.length):Int)) then true else decide (6 < (↑(b.shown.length):Int)))=true)=>(An (An (fun (y15:(!bif decide (3 < (↑(b.lines.length):Int)) then true else decide (6 < (↑(b.shown.length):Int)))=true)=>y14) (Ak 1 tv)) tv)) (An (An (fun (y16:(bif decide (3 < (↑(b.lines.length):Int)) then true else decide (6 < (↑(b.shown.length):Int)))=true)=>tv) (fun (y17:(bif decide (3 < (↑(b.lines.length):Int)) then true else decide (6 < (↑(b.shown.length):Int)))=false)=>(o1 hpre y17))) (Ak 1 (An (fun (y18:(!bif bif decide (3 < (↑(b.lines.length):Int)) then true else decide (6 < (↑(b.shown.length):Int)) then true else decide (3 < (↑(b.ctrs.length):Int)))=true)=>(An (Ak 1 tv) tv)) (An (fun (y19:(!bif bif decide (3 < (↑(b.lines.length):Int)) then true else decide (6 < (↑(b.shown.length):Int)) then true else decide (3 < (↑(b.ctrs.length):Int)))=true)=>(An (An (fun (y20:(!bif bif decide (3 < (↑(b.lines.length):Int)) then true else decide (6 < (↑(b.shown.length):Int)) then true else decide (3 < (↑(b.ctrs.length):Int)))=true)=>y19) tv) tv)) (An (fun (y21:(!bif bif decide (3 < (↑(b.lines.length):Int)) then true else decide (6 < (↑(b.shown.length):Int)) then true else decide (3 < (↑(b.ctrs.length):Int)))=true)=>(An (Ak 1 (An (fun (y22:(!bif bif decide (3 < (↑(b.lines.length):Int)) then true else decide (6 < (↑(b.shown.length):Int)) then true else decide (3 < (↑(b.ctrs.length):Int)))=true)=>y21) (Ak 2 tv))) (An (An (zr (iv b.rate)) (An (zr (iv 0)) (An (zr (iv 9)) tv))) (An (t62 b.rate (0) (9)) (Ak 2 (fun (i23:Env)=>tv)))))) (An (fun (y24:(!bif bif decide (3 < (↑(b.lines.length):Int)) then true else decide (6 < (↑(b.shown.length):Int)) then true else decide (3 < (↑(b.ctrs.length):Int)))=true)=>(An (An (fun (y25:(!bif bif decide (3 < (↑(b.lines.length):Int)) then true else decide (6 < (↑(b.shown.length):Int)) then true else decide (3 < (↑(b.ctrs.length):Int)))=true)=>y24) tv) tv)) (An (An (fun (y26:(bif bif decide (3 < (↑(b.lines.length):Int)) then true else decide (6 < (↑(b.shown.length):Int)) then true else decide (3 < (↑(b.ctrs.length):Int)))=true)=>tv) (fun (y27:(bif bif decide (3 < (↑(b.lines.length):Int)) then true else decide (6 < (↑(b.shown.length):Int)) then true else decide (3 < (↑(b.ctrs.length):Int)))=false)=>(o2 hpre y27))) (Ak 1 (An (fun (y28:(!bif bif bif decide (3 < (↑(b.lines.length):Int)) then true else decide (6 < (↑(b.shown.length):Int)) then true else decide (3 < (↑(b.ctrs.length):Int)) then true else !within b.rate 0 9)=true)=>(An (Ak 1 tv) tv)) (An (fun (y29:(!bif bif bif decide (3 < (↑(b.lines.length):Int)) then true else decide (6 < (↑(b.shown.length):Int)) then true else decide (3 < (↑(b.ctrs.length):Int)) then true else !within b.rate 0 9)=true)=>(An (An (fun (y30:(!bif bif bif decide (3 < (↑(b.lines.length):Int)) then true else decide (6 < (↑(b.shown.length):Int)) then true else decide (3 < (↑(b.ctrs.length):Int)) then true else !within b.rate 0 9)=true)=>y29) tv) tv)) (An (fun (y31:(!bif bif bif decide (3 < (↑(b.lines.length):Int)) then true else decide (6 < (↑(b.shown.length):Int)) then true else decide (3 < (↑(b.ctrs.length):Int)) then true else !within b.rate 0 9)=true)=>(An (Ak 1 tv) tv)) (An (fun (y32:(!bif bif bif decide (3 < (↑(b.lines.length):Int)) then true else decide (6 < (↑(b.shown.length):Int)) then true else decide (3 < (↑(b.ctrs.length):Int)) then true else !within b.rate 0 9)=true)=>(An (An (fun (y33:(!bif bif bif decide (3 < (↑(b.lines.length):Int)) then true else decide (6 < (↑(b.shown.length):Int)) then true else decide (3 < (↑(b.ctrs.length):Int)) then true else !within b.rate 0 9)=true)=>y32) tv) tv)) (An (fun (y34:(!bif bif bif decide (3 < (↑(b.lines.length):Int)) then true else decide (6 < (↑(b.shown.length):Int)) then true else decide (3 < (↑(b.ctrs.length):Int)) then true else !within b.rate 0 9)=true)=>(An (Ak 1 (An (fun (y35:(!bif bif bif decide (3 < (↑(b.lines.length):Int)) then true else decide (6 < (↑(b.shown.length):Int)) then true else decide (3 < (↑(b.ctrs.length):Int)) then true else !within b.rate 0 9)=true)=>y34) (Ak 1 (An (fun (y36:(!bif bif bif decide (3 < (↑(b.lines.length):Int)) then true else decide (6 < (↑(b.shown.length):Int)) then true else decide (3 < (↑(b.ctrs.length):Int)) then true else !within b.rate 0 9)=true)=>y34) tv)))) (An (An (zr (iv b.rep)) (An (zr (iv 0)) (An (zr (iv b.rate)) tv))) (An (t62 b.rep (0) b.rate) (Ak 2 (fun (i37:Env)=>tv)))))) (An (fun (y38:(!bif bif bif decide (3 < (↑(b.lines.length):Int)) then true else decide (6 < (↑(b.shown.length):Int)) then true else decide (3 < (↑(b.ctrs.length):Int)) then true else !within b.rate 0 9)=true)=>(An (An (fun (y39:(!bif bif bif decide (3 < (↑(b.lines.length):Int)) then true else decide (6 < (↑(b.shown.length):Int)) then true else decide (3 < (↑(b.ctrs.length):Int)) then true else !within b.rate 0 9)=true)=>y38) tv) tv)) (An (An (fun (y40:(bif bif bif decide (3 < (↑(b.lines.length):Int)) then true else decide (6 < (↑(b.shown.length):Int)) then true else decide (3 < (↑(b.ctrs.length):Int)) then true else !within b.rate 0 9)=true)=>tv) (fun (y41:(bif bif bif decide (3 < (↑(b.lines.length):Int)) then true else decide (6 < (↑(b.shown.length):Int)) then true else decide (3 < (↑(b.ctrs.length):Int)) then true else !within b.rate 0 9)=false)=>(o3 hpre y41))) tv)))))))))))))))))))))))))) ?_
 refine zI (bif bif bif bif decide (3 < (↑(b.lines.length):Int)) then true else decide (6 < (↑(b.shown.length):Int)) then true else decide (3 < (↑(b.ctrs.length):Int)) then true else !within b.rate 0 9 then true else !within b.rep 0 b.rate) (fun y42 => ?_) (fun y42 => ?_)
 ·refine swp_seq ?_
  refine zR [2] [] (Ak 1 tv) ?_
  refine swp_ret ?_
  exact zT [] (An (Ak 1 tv) (An (An (ci (o4 hpre y42)) (zr nilN)) (An (zr true) (An (zr true) (zr true)))))
 ·refine swp_skip ?_
  refine swp_seq ?_
  refine swp_seq ?_
  refine zR [1,40,41,42] [0] (Ak 4 tv) ?_
  refine swp_block ?_
  refine zL (Hint.ann (h72a b) [(1,AV.ptr 0 []),(40,AV.sl 2 b.lines.length fun (i:Nat)=>cSpan (lnB b i)),(41,iv (↑(b.lines.length):Int))] [(0,OB.cells 26 (cBk b))] 10288) (zE hE [] [(0,.same 0)] [40,41] [0] (An (An (An (zr (some (Src.same 0))) (zr nilP)) (An (An (zr (AV.sl 2 b.lines.length fun (i:Nat)=>cSpan (lnB b i))) (zr true)) (An (An (zr (iv (↑(b.lines.length):Int))) (zr true)) (An (An (ci (o5 hpre y42)) (zr nilN)) tv)))) (An (An (An (zr (OB.cells 26 (cBk b))) (zr true)) tv) (An (zr true) (zr true))))) (o6 hpre y42) (fun (x43:Nat) hx43 => ?_)
  refine swp_seq ?_
  refine zR [1,40,41,42,43] [0] (Ak 1 tv) ?_
  refine swp_seq ?_
  refine zI (decide ((x43:Int) < (↑(b.lines.length):Int))) (fun y44 => ?_) (fun y44 => ?_)
  ·refine swp_skip ?_
   refine swp_seq ?_
   refine swp_block ?_
   refine swp_seq ?_
   refine zR [1,40,41,42,4] [0,10312] (An (An (o7 hpre y42 x43 hx43 y44) (o8 hpre y42 x43 hx43 y44)) (Ak 3 tv)) ?_
   refine swp_seq ?_
   refine zC ([(4,CallSpec.eq (s62 (lnB b x43).lo 0 (lnB b x43).hi) [true,true,true])]) [1,40,41,42,56] [0] (Ak 4 (An (An (An (zr (iv (lnB b x43).lo)) (An (zr (iv 0)) (An (zr (iv (lnB b x43).hi)) tv))) (An (t62 (lnB b x43).lo (0) (lnB b x43).hi) (Ak 2 (fun (i45:Env)=>tv)))) (Ak 2 (An (fun (y46:(!!within (lnB b x43).lo 0 (lnB b x43).hi)=true)=>(An (Ak 1 tv) tv)) (An (fun (y47:(!!within (lnB b x43).lo 0 (lnB b x43).hi)=true)=>(An (An (fun (y48:(!!within (lnB b x43).lo 0 (lnB b x43).hi)=true)=>y47) tv) tv)) (An (fun (y49:(!!within (lnB b x43).lo 0 (lnB b x43).hi)=true)=>(An (An (fun (y50:(!!within (lnB b x43).lo 0 (lnB b x43).hi)=true)=>y49) (Ak 1 tv)) tv)) (An (An (fun (y51:(!within (lnB b x43).lo 0 (lnB b x43).hi)=true)=>tv) (fun (y52:(!within (lnB b x43).lo 0 (lnB b x43).hi)=false)=>(o9 hpre y42 x43 hx43 y44 y52))) tv))))))) ?_
   refine zI (bif !within (lnB b x43).lo 0 (lnB b x43).hi then true else decide (9 < (lnB b x43).hi)) (fun y53 => ?_) (fun y53 => ?_)
   ·refine swp_seq ?_
    refine zR [2] [] (Ak 1 tv) ?_
    refine swp_ret ?_
    exact zT [] (An (Ak 1 tv) (An (An (ci (o10 hpre y42 x43 hx43 y44 y53)) (zr nilN)) (An (zr true) (An (zr true) (zr true)))))
   ·refine swp_skip ?_
    refine zR [1,40,41,42] [0] (An (o11 hpre y42 x43 hx43 y44 y53) (Ak 1 tv)) ?_
    exact zn (zE hE [] [(0,.same 0)] [40,41] [0] (An (An (An (zr (some (Src.same 0))) (zr nilP)) (An (An (zr (AV.sl 2 b.lines.length fun (i:Nat)=>cSpan (lnB b i))) (zr true)) (An (An (zr (iv (↑(b.lines.length):Int))) (zr true)) (An (An (ci (o12 hpre y42 x43 hx43 y44 y53)) (zr nilN)) tv)))) (An (An (An (zr (OB.cells 26 (cBk b))) (zr true)) tv) (An (zr true) (zr true))))) (o13 hpre y42 x43 hx43 y44 y53) (o14 hpre y42 x43 hx43 y44 y53)
  ·refine swp_exit ?_
   refine swp_seq ?_
   refine swp_seq ?_
   refine zR [1,59,60,61] [0] (Ak 4 tv) ?_
   refine swp_block ?_
   refine zL (Hint.ann (h72b b) [(1,AV.ptr 0 []),(59,AV.sl 3 b.shown.length fun (i:Nat)=>cShn (shB b i)),(60,iv (↑(b.shown.length):Int))] [(0,OB.cells 26 (cBk b))] 20328) (zE hE [] [(0,.same 0)] [59,60] [0] (An (An (An (zr (some (Src.same 0))) (zr nilP)) (An (An (zr (AV.sl 3 b.shown.length fun (i:Nat)=>cShn (shB b i))) (zr true)) (An (An (zr (iv (↑(b.shown.length):Int))) (zr true)) (An (An (ci (o15 hpre y42 x43 hx43 y44)) (zr nilN)) tv)))) (An (An (An (zr (OB.cells 26 (cBk b))) (zr true)) tv) (An (zr true) (zr true))))) (o16 hpre y42 x43 hx43 y44) (fun (x54:Nat) hx54 => ?_)
   refine swp_seq ?_
   refine zR [1,59,60,61,62] [0] (Ak 1 tv) ?_
   refine swp_seq ?_
   refine zI (decide ((x54:Int) < (↑(b.shown.length):Int))) (fun y55 => ?_) (fun y55 => ?_)
   ·refine swp_skip ?_
    refine swp_seq ?_
    refine swp_block ?_
    refine swp_seq ?_
    refine zR [1,59,60,61,6,5] [0,20360] (Ak 1 (An (An (o17 hpre y42 x43 hx43 y44 x54 hx54 y55) (o18 hpre y42 x43 hx43 y44 x54 hx54 y55)) (Ak 4 tv))) ?_
    refine swp_seq ?_
    refine zC ([(6,CallSpec.eq (s62 (shB b x54).ad 0 ((↑(b.lines.length):Int) - 1)) [true,true,true]),(11,CallSpec.eq (s62 (shB b x54).day 0 13) [true,true,true]),(17,CallSpec.eq (s62 (shB b x54).ed 0 2) [true,true,true]),(26,CallSpec.eq (c72 b x54) [false,true])]) [1,59,60,61,93] [0] (Ak 5 (An (o19 hpre y42 x43 hx43 y44 x54 hx54 y55) (An (An (An (zr (iv (shB b x54).ad)) (An (zr (iv 0)) (An (zr (iv ((↑(b.lines.length):Int) - 1))) tv))) (An (t62 (shB b x54).ad (0) ((↑(b.lines.length):Int) - 1)) (Ak 2 (fun (i56:Env)=>tv)))) (Ak 2 (An (fun (y57:(!!within (shB b x54).ad 0 ((↑(b.lines.length):Int) - 1))=true)=>(An (Ak 1 tv) tv)) (An (fun (y58:(!!within (shB b x54).ad 0 ((↑(b.lines.length):Int) - 1))=true)=>(An (An (fun (y59:(!!within (shB b x54).ad 0 ((↑(b.lines.length):Int) - 1))=true)=>y58) tv) tv)) (An (fun (y60:(!!within (shB b x54).ad 0 ((↑(b.lines.length):Int) - 1))=true)=>(An (Ak 1 (An (fun (y61:(!!within (shB b x54).ad 0 ((↑(b.lines.length):Int) - 1))=true)=>y60) (Ak 2 tv))) (An (An (zr (iv (shB b x54).day)) (An (zr (iv 0)) (An (zr (iv 13)) tv))) (An (t62 (shB b x54).day (0) (13)) (Ak 2 (fun (i62:Env)=>tv)))))) (An (fun (y63:(!!within (shB b x54).ad 0 ((↑(b.lines.length):Int) - 1))=true)=>(An (An (fun (y64:(!!within (shB b x54).ad 0 ((↑(b.lines.length):Int) - 1))=true)=>y63) tv) tv)) (An (An (fun (y65:(!within (shB b x54).ad 0 ((↑(b.lines.length):Int) - 1))=true)=>tv) (fun (y66:(!within (shB b x54).ad 0 ((↑(b.lines.length):Int) - 1))=false)=>(o20 hpre y42 x43 hx43 y44 x54 hx54 y55 y66))) (Ak 1 (An (fun (y67:(!bif !within (shB b x54).ad 0 ((↑(b.lines.length):Int) - 1) then true else !within (shB b x54).day 0 13)=true)=>(An (Ak 1 tv) tv)) (An (fun (y68:(!bif !within (shB b x54).ad 0 ((↑(b.lines.length):Int) - 1) then true else !within (shB b x54).day 0 13)=true)=>(An (An (fun (y69:(!bif !within (shB b x54).ad 0 ((↑(b.lines.length):Int) - 1) then true else !within (shB b x54).day 0 13)=true)=>y68) tv) tv)) (An (fun (y70:(!bif !within (shB b x54).ad 0 ((↑(b.lines.length):Int) - 1) then true else !within (shB b x54).day 0 13)=true)=>(An (Ak 1 (An (fun (y71:(!bif !within (shB b x54).ad 0 ((↑(b.lines.length):Int) - 1) then true else !within (shB b x54).day 0 13)=true)=>y70) (Ak 2 tv))) (An (An (zr (iv (shB b x54).ed)) (An (zr (iv 0)) (An (zr (iv 2)) tv))) (An (t62 (shB b x54).ed (0) (2)) (Ak 2 (fun (i72:Env)=>tv)))))) (An (fun (y73:(!bif !within (shB b x54).ad 0 ((↑(b.lines.length):Int) - 1) then true else !within (shB b x54).day 0 13)=true)=>(An (An (fun (y74:(!bif !within (shB b x54).ad 0 ((↑(b.lines.length):Int) - 1) then true else !within (shB b x54).day 0 13)=true)=>y73) tv) tv)) (An (An (fun (y75:(bif !within (shB b x54).ad 0 ((↑(b.lines.length):Int) - 1) then true else !within (shB b x54).day 0 13)=true)=>tv) (fun (y76:(bif !within (shB b x54).ad 0 ((↑(b.lines.length):Int) - 1) then true else !within (shB b x54).day 0 13)=false)=>(o21 hpre y42 x43 hx43 y44 x54 hx54 y55 y76))) (Ak 1 (An (fun (y77:(!bif bif !within (shB b x54).ad 0 ((↑(b.lines.length):Int) - 1) then true else !within (shB b x54).day 0 13 then true else !within (shB b x54).ed 0 2)=true)=>(An (Ak 1 tv) tv)) (An (fun (y78:(!bif bif !within (shB b x54).ad 0 ((↑(b.lines.length):Int) - 1) then true else !within (shB b x54).day 0 13 then true else !within (shB b x54).ed 0 2)=true)=>(An (An (fun (y79:(!bif bif !within (shB b x54).ad 0 ((↑(b.lines.length):Int) - 1) then true else !within (shB b x54).day 0 13 then true else !within (shB b x54).ed 0 2)=true)=>y78) tv) tv)) (An (fun (y80:(!bif bif !within (shB b x54).ad 0 ((↑(b.lines.length):Int) - 1) then true else !within (shB b x54).day 0 13 then true else !within (shB b x54).ed 0 2)=true)=>(An (Ak 1 tv) tv)) (An (fun (y81:(!bif bif !within (shB b x54).ad 0 ((↑(b.lines.length):Int) - 1) then true else !within (shB b x54).day 0 13 then true else !within (shB b x54).ed 0 2)=true)=>(An (An (fun (y82:(!bif bif !within (shB b x54).ad 0 ((↑(b.lines.length):Int) - 1) then true else !within (shB b x54).day 0 13 then true else !within (shB b x54).ed 0 2)=true)=>y81) (An (fun (y83:(!bif bif !within (shB b x54).ad 0 ((↑(b.lines.length):Int) - 1) then true else !within (shB b x54).day 0 13 then true else !within (shB b x54).ed 0 2)=true)=>y81) tv)) (An (o22 hpre y42 x43 hx43 y44 x54 hx54 y55 y81) (o23 hpre y42 x43 hx43 y44 x54 hx54 y55 y81)))) (An (fun (y84:(!bif bif !within (shB b x54).ad 0 ((↑(b.lines.length):Int) - 1) then true else !within (shB b x54).day 0 13 then true else !within (shB b x54).ed 0 2)=true)=>(An (Ak 1 tv) tv)) (An (fun (y85:(!bif bif !within (shB b x54).ad 0 ((↑(b.lines.length):Int) - 1) then true else !within (shB b x54).day 0 13 then true else !within (shB b x54).ed 0 2)=true)=>(An (Ak 1 (An (fun (y86:(!bif bif !within (shB b x54).ad 0 ((↑(b.lines.length):Int) - 1) then true else !within (shB b x54).day 0 13 then true else !within (shB b x54).ed 0 2)=true)=>y85) (An (fun (y87:(!bif bif !within (shB b x54).ad 0 ((↑(b.lines.length):Int) - 1) then true else !within (shB b x54).day 0 13 then true else !within (shB b x54).ed 0 2)=true)=>y85) tv))) (An (An (An (zr 3) (An (o24 hpre y42 x43 hx43 y44 x54 hx54 y55 y85) (fun (i88:Nat)=>(fun (y89:i88 < (List.take x54 b.shown).length)=>(o25 hpre y42 x43 hx43 y44 x54 hx54 y55 y85 i88 y89))))) (An (zr (AV.agg (cShn (shB b x54)))) tv)) (An (t86 (List.take x54 b.shown) (shB b x54)) (An (o26 hpre y42 x43 hx43 y44 x54 hx54 y55 y85) (Ak 1 (fun (i90:Env)=>tv))))))) (An (An (fun (y91:(bif bif !within (shB b x54).ad 0 ((↑(b.lines.length):Int) - 1) then true else !within (shB b x54).day 0 13 then true else !within (shB b x54).ed 0 2)=true)=>tv) (fun (y92:(bif bif !within (shB b x54).ad 0 ((↑(b.lines.length):Int) - 1) then true else !within (shB b x54).day 0 13 then true else !within (shB b x54).ed 0 2)=false)=>(o27 hpre y42 x43 hx43 y44 x54 hx54 y55 y92))) tv))))))))))))))))))))))) ?_
    refine zI (bif bif bif !within (shB b x54).ad 0 ((↑(b.lines.length):Int) - 1) then true else !within (shB b x54).day 0 13 then true else !within (shB b x54).ed 0 2 then true else hasG (List.take x54 b.shown) (shB b x54)) (fun y93 => ?_) (fun y93 => ?_)
    ·refine swp_seq ?_
     refine zR [2] [] (Ak 1 tv) ?_
     refine swp_ret ?_
     exact zT [] (An (Ak 1 tv) (An (An (ci (o28 hpre y42 x43 hx43 y44 x54 hx54 y55 y93)) (zr nilN)) (An (zr true) (An (zr true) (zr true)))))
    ·refine swp_skip ?_
     refine zR [1,59,60,61] [0] (An (o29 hpre y42 x43 hx43 y44 x54 hx54 y55 y93) (Ak 1 tv)) ?_
     exact zn (zE hE [] [(0,.same 0)] [59,60] [0] (An (An (An (zr (some (Src.same 0))) (zr nilP)) (An (An (zr (AV.sl 3 b.shown.length fun (i:Nat)=>cShn (shB b i))) (zr true)) (An (An (zr (iv (↑(b.shown.length):Int))) (zr true)) (An (An (ci (o30 hpre y42 x43 hx43 y44 x54 hx54 y55 y93)) (zr nilN)) tv)))) (An (An (An (zr (OB.cells 26 (cBk b))) (zr true)) tv) (An (zr true) (zr true))))) (o31 hpre y42 x43 hx43 y44 x54 hx54 y55 y93) (o32 hpre y42 x43 hx43 y44 x54 hx54 y55 y93)
   ·refine swp_exit ?_
    refine swp_seq ?_
    refine swp_seq ?_
    refine zR [96,97,98] [] (Ak 4 tv) ?_
    refine swp_block ?_
    refine zL (Hint.ann (h72c b) [(96,AV.sl 4 b.ctrs.length fun (i:Nat)=>cCtr (ctB b i)),(97,iv (↑(b.ctrs.length):Int))] [] 30368) (zE hE [] [] [96,97] [] (An (An (An (zr (AV.sl 4 b.ctrs.length fun (i:Nat)=>cCtr (ctB b i))) (zr true)) (An (An (zr (iv (↑(b.ctrs.length):Int))) (zr true)) (An (An (ci (o33 hpre y42 x43 hx43 y44 x54 hx54 y55)) (zr nilN)) tv))) (Ak 1 (An (zr true) (zr true))))) (o34 hpre y42 x43 hx43 y44 x54 hx54 y55) (fun (x94:Nat) hx94 => ?_)
    refine swp_seq ?_
    refine zR [96,97,98,99] [] (Ak 1 tv) ?_
    refine swp_seq ?_
    refine zI (decide ((x94:Int) < (↑(b.ctrs.length):Int))) (fun y95 => ?_) (fun y95 => ?_)
    ·refine swp_skip ?_
     refine swp_seq ?_
     refine swp_block ?_
     refine swp_seq ?_
     refine zR [96,97,98,8] [30392] (An (An (o35 hpre y42 x43 hx43 y44 x54 hx54 y55 x94 hx94 y95) (o36 hpre y42 x43 hx43 y44 x54 hx54 y55 x94 hx94 y95)) (Ak 3 tv)) ?_
     refine swp_seq ?_
     refine zC ([(2,CallSpec.eq (s62 (ctB b x94).frm 0 13) [true,true,true]),(7,CallSpec.eq (s62 (ctB b x94).days 1 7) [true,true,true]),(13,CallSpec.eq (s62 (ctB b x94).room 0 99) [true,true,true]),(19,CallSpec.eq (s62 (ctB b x94).pence 0 99) [true,true,true])]) [96,97,98,123] [] (Ak 2 (An (An (An (zr (iv (ctB b x94).frm)) (An (zr (iv 0)) (An (zr (iv 13)) tv))) (An (t62 (ctB b x94).frm (0) (13)) (Ak 2 (fun (i96:Env)=>tv)))) (Ak 2 (An (fun (y97:(!!within (ctB b x94).frm 0 13)=true)=>(An (Ak 1 tv) tv)) (An (fun (y98:(!!within (ctB b x94).frm 0 13)=true)=>(An (An (fun (y99:(!!within (ctB b x94).frm 0 13)=true)=>y98) tv) tv)) (An (fun (y100:(!!within (ctB b x94).frm 0 13)=true)=>(An (Ak 1 (An (fun (y101:(!!within (ctB b x94).frm 0 13)=true)=>y100) (Ak 2 tv))) (An (An (zr (iv (ctB b x94).days)) (An (zr (iv 1)) (An (zr (iv 7)) tv))) (An (t62 (ctB b x94).days (1) (7)) (Ak 2 (fun (i102:Env)=>tv)))))) (An (fun (y103:(!!within (ctB b x94).frm 0 13)=true)=>(An (An (fun (y104:(!!within (ctB b x94).frm 0 13)=true)=>y103) tv) tv)) (An (An (fun (y105:(!within (ctB b x94).frm 0 13)=true)=>tv) (fun (y106:(!within (ctB b x94).frm 0 13)=false)=>(o37 hpre y42 x43 hx43 y44 x54 hx54 y55 x94 hx94 y95 y106))) (Ak 1 (An (fun (y107:(!bif !within (ctB b x94).frm 0 13 then true else !within (ctB b x94).days 1 7)=true)=>(An (Ak 1 tv) tv)) (An (fun (y108:(!bif !within (ctB b x94).frm 0 13 then true else !within (ctB b x94).days 1 7)=true)=>(An (An (fun (y109:(!bif !within (ctB b x94).frm 0 13 then true else !within (ctB b x94).days 1 7)=true)=>y108) tv) tv)) (An (fun (y110:(!bif !within (ctB b x94).frm 0 13 then true else !within (ctB b x94).days 1 7)=true)=>(An (Ak 1 (An (fun (y111:(!bif !within (ctB b x94).frm 0 13 then true else !within (ctB b x94).days 1 7)=true)=>y110) (Ak 2 tv))) (An (An (zr (iv (ctB b x94).room)) (An (zr (iv 0)) (An (zr (iv 99)) tv))) (An (t62 (ctB b x94).room (0) (99)) (Ak 2 (fun (i112:Env)=>tv)))))) (An (fun (y113:(!bif !within (ctB b x94).frm 0 13 then true else !within (ctB b x94).days 1 7)=true)=>(An (An (fun (y114:(!bif !within (ctB b x94).frm 0 13 then true else !within (ctB b x94).days 1 7)=true)=>y113) tv) tv)) (An (An (fun (y115:(bif !within (ctB b x94).frm 0 13 then true else !within (ctB b x94).days 1 7)=true)=>tv) (fun (y116:(bif !within (ctB b x94).frm 0 13 then true else !within (ctB b x94).days 1 7)=false)=>(o38 hpre y42 x43 hx43 y44 x54 hx54 y55 x94 hx94 y95 y116))) (Ak 1 (An (fun (y117:(!bif bif !within (ctB b x94).frm 0 13 then true else !within (ctB b x94).days 1 7 then true else !within (ctB b x94).room 0 99)=true)=>(An (Ak 1 tv) tv)) (An (fun (y118:(!bif bif !within (ctB b x94).frm 0 13 then true else !within (ctB b x94).days 1 7 then true else !within (ctB b x94).room 0 99)=true)=>(An (An (fun (y119:(!bif bif !within (ctB b x94).frm 0 13 then true else !within (ctB b x94).days 1 7 then true else !within (ctB b x94).room 0 99)=true)=>y118) tv) tv)) (An (fun (y120:(!bif bif !within (ctB b x94).frm 0 13 then true else !within (ctB b x94).days 1 7 then true else !within (ctB b x94).room 0 99)=true)=>(An (Ak 1 (An (fun (y121:(!bif bif !within (ctB b x94).frm 0 13 then true else !within (ctB b x94).days 1 7 then true else !within (ctB b x94).room 0 99)=true)=>y120) (Ak 2 tv))) (An (An (zr (iv (ctB b x94).pence)) (An (zr (iv 0)) (An (zr (iv 99)) tv))) (An (t62 (ctB b x94).pence (0) (99)) (Ak 2 (fun (i122:Env)=>tv)))))) (An (fun (y123:(!bif bif !within (ctB b x94).frm 0 13 then true else !within (ctB b x94).days 1 7 then true else !within (ctB b x94).room 0 99)=true)=>(An (An (fun (y124:(!bif bif !within (ctB b x94).frm 0 13 then true else !within (ctB b x94).days 1 7 then true else !within (ctB b x94).room 0 99)=true)=>y123) tv) tv)) (An (An (fun (y125:(bif bif !within (ctB b x94).frm 0 13 then true else !within (ctB b x94).days 1 7 then true else !within (ctB b x94).room 0 99)=true)=>tv) (fun (y126:(bif bif !within (ctB b x94).frm 0 13 then true else !within (ctB b x94).days 1 7 then true else !within (ctB b x94).room 0 99)=false)=>(o39 hpre y42 x43 hx43 y44 x54 hx54 y55 x94 hx94 y95 y126))) tv)))))))))))))))))))) ?_
     refine zI (bif bif bif !within (ctB b x94).frm 0 13 then true else !within (ctB b x94).days 1 7 then true else !within (ctB b x94).room 0 99 then true else !within (ctB b x94).pence 0 99) (fun y127 => ?_) (fun y127 => ?_)
     ·refine swp_seq ?_
      refine zR [2] [] (Ak 1 tv) ?_
      refine swp_ret ?_
      exact zT [] (An (Ak 1 tv) (An (An (ci (o40 hpre y42 x43 hx43 y44 x54 hx54 y55 x94 hx94 y95 y127)) (zr nilN)) (An (zr true) (An (zr true) (zr true)))))
     ·refine swp_skip ?_
      refine zR [96,97,98] [] (An (o41 hpre y42 x43 hx43 y44 x54 hx54 y55 x94 hx94 y95 y127) (Ak 1 tv)) ?_
      exact zn (zE hE [] [] [96,97] [] (An (An (An (zr (AV.sl 4 b.ctrs.length fun (i:Nat)=>cCtr (ctB b i))) (zr true)) (An (An (zr (iv (↑(b.ctrs.length):Int))) (zr true)) (An (An (ci (o42 hpre y42 x43 hx43 y44 x54 hx54 y55 x94 hx94 y95 y127)) (zr nilN)) tv))) (Ak 1 (An (zr true) (zr true))))) (o43 hpre y42 x43 hx43 y44 x54 hx54 y55 x94 hx94 y95 y127) (o44 hpre y42 x43 hx43 y44 x54 hx54 y55 x94 hx94 y95 y127)
    ·refine swp_exit ?_
     refine swp_seq ?_
     refine zR [2] [] (Ak 1 tv) ?_
     refine swp_ret ?_
     exact zT [] (An (Ak 1 tv) (An (An (ci (o45 hpre y42 x43 hx43 y44 x54 hx54 y55 x94 hx94 y95)) (zr nilN)) (An (zr true) (An (zr true) (zr true)))))
theorem t72 (b:Book):Triple Tryz.prog 72 (s72 b):=by
 apply w72
 all_goals (try delta qj qk ql qm qn qo qp qq qr qs qt qu qv qw)
 case o4=>intro hp h; rw [head8] at h; exact chk_head (by simpa using h)
 case o10=>intro hp h x hx hl h2; rw [ln8] at h2; simp only [decide_eq_true_eq] at hl; exact chk_ln (x:=x) (by omega) (by simpa using h2)
 case o13=>intro hp h x hx hl h2; rw [ln8] at h2; simp only [decide_eq_true_eq] at hl; exact ⟨by omega,lt_succ_cases hx.2 (by simpa using h2)⟩
 case o24=>intro hp h x hx hl y hy hl2 h2; rw [List.length_take]; omega
 case o25=>intro hp h x hx hl y hy hl2 h2 i hi; rw [List.length_take] at hi; rw [take_getD _ _ (by omega)]; rfl
 case o26=>intro hp h x hx hl y hy hl2 h2; rw [List.length_take]; simp only [smallB] at hp; omega
 case o28=>intro hp h x hx hl y hy hl2 h2; rw [sh8 b y hy.1] at h2; simp only [decide_eq_true_eq] at hl2; exact chk_sh (x:=y) (by omega) (by simpa using h2)
 case o31=>intro hp h x hx hl y hy hl2 h2; rw [sh8 b y hy.1] at h2; simp only [decide_eq_true_eq] at hl2; exact ⟨by omega,lt_succ_cases hy.2 (by simpa using h2)⟩
 case o40=>intro hp h x hx hl y hy hl2 z hz hl3 h2; rw [ct8] at h2; simp only [decide_eq_true_eq] at hl3; exact chk_ct (x:=z) (by omega) (by simpa using h2)
 case o43=>intro hp h x hx hl y hy hl2 z hz hl3 h2; rw [ct8] at h2; simp only [decide_eq_true_eq] at hl3; exact ⟨by omega,lt_succ_cases hz.2 (by simpa using h2)⟩
 case o45 =>
  intro hp h x hx hl y hy hl2 z hz hl3
  rw [head8] at h
  simp only [decide_eq_false_iff_not] at hl hl2 hl3
  exact chk_ok (by simpa using h) (fun j hj=>hx.2 j (by omega)) (fun j hj=>hy.2 j (by omega)) (fun j hj=>hz.2 j (by omega))
 all_goals (simp only [smallB,inI] at *)
 all_goals (try ((repeat intro _) <;> (try simp only [Bool.cond_true_left,Bool.cond_false_right,Bool.not_not,Bool.not_eq_true',Bool.not_eq_false',Bool.or_eq_true,Bool.or_eq_false_iff,Bool.and_eq_true,decide_eq_true_eq,decide_eq_false_iff_not,inI,big] at *) <;> first | (exact rfl) | omega | (exact ⟨Nat.zero_le _,fun j hj=>absurd hj (Nat.not_lt_zero j)⟩) | (simp_all; done) | (simp_all; omega)))
abbrev qx (b:Book) (P:Prop):Prop:=fitsB b->P
abbrev qy (b:Book) (P:Prop):Prop:=qx b ((bif bif bif bif decide (3 < (↑(b.lines.length):Int)) then true else decide (6 < (↑(b.shown.length):Int)) then true else decide (3 < (↑(b.ctrs.length):Int)) then true else !within b.rate 0 9 then true else !within b.rep 0 b.rate)=false->P)
abbrev qz (b:Book) (x43:Nat) (P:Prop):Prop:=(x43<=b.lines.length /\ ∀ (j:Nat),j < x43->okLn (lnB b j)=true)->P
abbrev q10 (b:Book) (x43:Nat) (P:Prop):Prop:=qz b x43 (decide ((x43:Int) < (↑(b.lines.length):Int))=true->P)
abbrev q11 (b:Book) (x43:Nat) (P:Prop):Prop:=qz b x43 (decide ((x43:Int) < (↑(b.lines.length):Int))=false->P)
abbrev q12 (b:Book) (x47:Nat) (P:Prop):Prop:=(x47<=b.shown.length /\ ∀ (j:Nat),j < x47->okShn b j=true)->P
abbrev q13 (b:Book) (x47:Nat) (P:Prop):Prop:=q12 b x47 (decide ((x47:Int) < (↑(b.shown.length):Int))=true->P)
abbrev q14 (b:Book) (x47:Nat) (P:Prop):Prop:=q13 b x47 ((bif bif !isAd b (shB b x47).ad then true else !within (shB b x47).day 0 13 then true else !within (shB b x47).ed 0 2)=false->P)
abbrev q15 (b:Book) (x47:Nat) (x71:Nat) (P:Prop):Prop:=(x71<=x47 /\ ∀ (j:Nat),j < x71->decide (shB b j=shB b x47)=false)->P
abbrev q16 (b:Book) (x47:Nat) (x71:Nat) (P:Prop):Prop:=q15 b x47 x71 (decide ((x71:Int) < (x47:Int))=true->P)
abbrev q17 (b:Book) (x47:Nat) (x71:Nat) (P:Prop):Prop:=q16 b x47 x71 ((decide ((shB b x71).ad=(shB b x47).ad) && (decide ((shB b x71).day=(shB b x47).day) && (decide ((shB b x71).ed=(shB b x47).ed) && true)))=false->P)
abbrev q18 (b:Book) (x47:Nat) (P:Prop):Prop:=q12 b x47 (decide ((x47:Int) < (↑(b.shown.length):Int))=false->P)
abbrev q19 (b:Book) (x74:Nat) (P:Prop):Prop:=(x74<=b.ctrs.length /\ ∀ (j:Nat),j < x74->okCtr (ctB b j)=true)->P
abbrev q1a (b:Book) (x74:Nat) (P:Prop):Prop:=q19 b x74 (decide ((x74:Int) < (↑(b.ctrs.length):Int))=true->P)
abbrev q1b (b:Book) (x74:Nat) (P:Prop):Prop:=q1a b x74 ((bif bif bif !within (ctB b x74).frm 0 13 then true else !within (ctB b x74).days 1 7 then true else !within (ctB b x74).room 0 99 then true else !within (ctB b x74).pence 0 99)=false->P)
theorem w25 (b:Book)
 (o0:qx b (decide (3 < (↑(b.lines.length):Int))=false->(!decide (3 < (↑(b.lines.length):Int)))=true))
 (o1:qx b ((bif decide (3 < (↑(b.lines.length):Int)) then true else decide (6 < (↑(b.shown.length):Int)))=false->(!bif decide (3 < (↑(b.lines.length):Int)) then true else decide (6 < (↑(b.shown.length):Int)))=true))
 (o2:qx b ((bif bif decide (3 < (↑(b.lines.length):Int)) then true else decide (6 < (↑(b.shown.length):Int)) then true else decide (3 < (↑(b.ctrs.length):Int)))=false->(!bif bif decide (3 < (↑(b.lines.length):Int)) then true else decide (6 < (↑(b.shown.length):Int)) then true else decide (3 < (↑(b.ctrs.length):Int)))=true))
 (o3:qx b ((bif bif bif decide (3 < (↑(b.lines.length):Int)) then true else decide (6 < (↑(b.shown.length):Int)) then true else decide (3 < (↑(b.ctrs.length):Int)) then true else !within b.rate 0 9)=false->(!bif bif bif decide (3 < (↑(b.lines.length):Int)) then true else decide (6 < (↑(b.shown.length):Int)) then true else decide (3 < (↑(b.ctrs.length):Int)) then true else !within b.rate 0 9)=true))
 (o4:qx b ((bif bif bif bif decide (3 < (↑(b.lines.length):Int)) then true else decide (6 < (↑(b.shown.length):Int)) then true else decide (3 < (↑(b.ctrs.length):Int)) then true else !within b.rate 0 9 then true else !within b.rep 0 b.rate)=true->80=checkB b))
 (o5:qy b (0=(↑0:Int)))
 (o6:qy b (0<=b.lines.length /\ ∀ (j:Nat),j < 0->okLn (lnB b j)=true))
 (o7:qy b (∀ (x43:Nat),q10 b x43 (0<=(x43:Int))))
 (o8:qy b (∀ (x43:Nat),q10 b x43 ((x43:Int) < (↑(b.lines.length):Int))))
 (o9:qy b (∀ (x43:Nat),q10 b x43 ((!isSpan (lnB b x43) 9)=true->80=checkB b)))
 (o10:qy b (∀ (x43:Nat),q10 b x43 ((!isSpan (lnB b x43) 9)=false->inI ((x43:Int) + 1))))
 (o11:qy b (∀ (x43:Nat),q10 b x43 ((!isSpan (lnB b x43) 9)=false->(x43:Int) + 1=(↑(x43 + 1):Int))))
 (o12:qy b (∀ (x43:Nat),q10 b x43 ((!isSpan (lnB b x43) 9)=false->x43 + 1<=b.lines.length /\ ∀ (j:Nat),j < x43 + 1->okLn (lnB b j)=true)))
 (o13:qy b (∀ (x43:Nat),q10 b x43 ((!isSpan (lnB b x43) 9)=false->b.lines.length - (x43 + 1) < b.lines.length - x43)))
 (o14:qy b (∀ (x43:Nat),q11 b x43 (0=(↑0:Int))))
 (o15:qy b (∀ (x43:Nat),q11 b x43 (0<=b.shown.length /\ ∀ (j:Nat),j < 0->okShn b j=true)))
 (o16:qy b (∀ (x43:Nat),q11 b x43 (∀ (x47:Nat),q13 b x47 (0<=(x47:Int)))))
 (o17:qy b (∀ (x43:Nat),q11 b x43 (∀ (x47:Nat),q13 b x47 ((x47:Int) < (↑(b.shown.length):Int)))))
 (o18:qy b (∀ (x43:Nat),q11 b x43 (∀ (x47:Nat),q13 b x47 ((!isAd b (shB b x47).ad)=false->(!!isAd b (shB b x47).ad)=true))))
 (o19:qy b (∀ (x43:Nat),q11 b x43 (∀ (x47:Nat),q13 b x47 ((bif !isAd b (shB b x47).ad then true else !within (shB b x47).day 0 13)=false->(!bif !isAd b (shB b x47).ad then true else !within (shB b x47).day 0 13)=true))))
 (o20:qy b (∀ (x43:Nat),q11 b x43 (∀ (x47:Nat),q13 b x47 ((bif bif !isAd b (shB b x47).ad then true else !within (shB b x47).day 0 13 then true else !within (shB b x47).ed 0 2)=true->80=checkB b))))
 (o21:qy b (∀ (x43:Nat),q11 b x43 (∀ (x47:Nat),q14 b x47 (0=(↑0:Int)))))
 (o22:qy b (∀ (x43:Nat),q11 b x43 (∀ (x47:Nat),q14 b x47 (0<=x47 /\ ∀ (j:Nat),j < 0->decide (shB b j=shB b x47)=false))))
 (o23:qy b (∀ (x43:Nat),q11 b x43 (∀ (x47:Nat),q14 b x47 (∀ (x71:Nat),q16 b x47 x71 (0<=(x71:Int))))))
 (o24:qy b (∀ (x43:Nat),q11 b x43 (∀ (x47:Nat),q14 b x47 (∀ (x71:Nat),q16 b x47 x71 ((x71:Int) < (↑(b.shown.length):Int))))))
 (o25:qy b (∀ (x43:Nat),q11 b x43 (∀ (x47:Nat),q14 b x47 (∀ (x71:Nat),q16 b x47 x71 (0<=(x47:Int))))))
 (o26:qy b (∀ (x43:Nat),q11 b x43 (∀ (x47:Nat),q14 b x47 (∀ (x71:Nat),q16 b x47 x71 ((x47:Int) < (↑(b.shown.length):Int))))))
 (o27:qy b (∀ (x43:Nat),q11 b x43 (∀ (x47:Nat),q14 b x47 (∀ (x71:Nat),q16 b x47 x71 ((decide ((shB b x71).ad=(shB b x47).ad) && (decide ((shB b x71).day=(shB b x47).day) && (decide ((shB b x71).ed=(shB b x47).ed) && true)))=true->80=checkB b)))))
 (o28:qy b (∀ (x43:Nat),q11 b x43 (∀ (x47:Nat),q14 b x47 (∀ (x71:Nat),q17 b x47 x71 (inI ((x71:Int) + 1))))))
 (o29:qy b (∀ (x43:Nat),q11 b x43 (∀ (x47:Nat),q14 b x47 (∀ (x71:Nat),q17 b x47 x71 ((x71:Int) + 1=(↑(x71 + 1):Int))))))
 (o30:qy b (∀ (x43:Nat),q11 b x43 (∀ (x47:Nat),q14 b x47 (∀ (x71:Nat),q17 b x47 x71 (x71 + 1<=x47 /\ ∀ (j:Nat),j < x71 + 1->decide (shB b j=shB b x47)=false)))))
 (o31:qy b (∀ (x43:Nat),q11 b x43 (∀ (x47:Nat),q14 b x47 (∀ (x71:Nat),q17 b x47 x71 (x47 - (x71 + 1) < x47 - x71)))))
 (o32:qy b (∀ (x43:Nat),q11 b x43 (∀ (x47:Nat),q14 b x47 (∀ (x71:Nat),q15 b x47 x71 (decide ((x71:Int) < (x47:Int))=false->inI ((x47:Int) + 1))))))
 (o33:qy b (∀ (x43:Nat),q11 b x43 (∀ (x47:Nat),q14 b x47 (∀ (x71:Nat),q15 b x47 x71 (decide ((x71:Int) < (x47:Int))=false->(x47:Int) + 1=(↑(x47 + 1):Int))))))
 (o34:qy b (∀ (x43:Nat),q11 b x43 (∀ (x47:Nat),q14 b x47 (∀ (x71:Nat),q15 b x47 x71 (decide ((x71:Int) < (x47:Int))=false->x47 + 1<=b.shown.length /\ ∀ (j:Nat),j < x47 + 1->okShn b j=true)))))
 (o35:qy b (∀ (x43:Nat),q11 b x43 (∀ (x47:Nat),q14 b x47 (∀ (x71:Nat),q15 b x47 x71 (decide ((x71:Int) < (x47:Int))=false->b.shown.length - (x47 + 1) < b.shown.length - x47)))))
 (o36:qy b (∀ (x43:Nat),q11 b x43 (∀ (x47:Nat),q18 b x47 (0=(↑0:Int)))))
 (o37:qy b (∀ (x43:Nat),q11 b x43 (∀ (x47:Nat),q18 b x47 (0<=b.ctrs.length /\ ∀ (j:Nat),j < 0->okCtr (ctB b j)=true))))
 (o38:qy b (∀ (x43:Nat),q11 b x43 (∀ (x47:Nat),q18 b x47 (∀ (x74:Nat),q1a b x74 (0<=(x74:Int))))))
 (o39:qy b (∀ (x43:Nat),q11 b x43 (∀ (x47:Nat),q18 b x47 (∀ (x74:Nat),q1a b x74 ((x74:Int) < (↑(b.ctrs.length):Int))))))
 (o40:qy b (∀ (x43:Nat),q11 b x43 (∀ (x47:Nat),q18 b x47 (∀ (x74:Nat),q1a b x74 ((!within (ctB b x74).frm 0 13)=false->(!!within (ctB b x74).frm 0 13)=true)))))
 (o41:qy b (∀ (x43:Nat),q11 b x43 (∀ (x47:Nat),q18 b x47 (∀ (x74:Nat),q1a b x74 ((bif !within (ctB b x74).frm 0 13 then true else !within (ctB b x74).days 1 7)=false->(!bif !within (ctB b x74).frm 0 13 then true else !within (ctB b x74).days 1 7)=true)))))
 (o42:qy b (∀ (x43:Nat),q11 b x43 (∀ (x47:Nat),q18 b x47 (∀ (x74:Nat),q1a b x74 ((bif bif !within (ctB b x74).frm 0 13 then true else !within (ctB b x74).days 1 7 then true else !within (ctB b x74).room 0 99)=false->(!bif bif !within (ctB b x74).frm 0 13 then true else !within (ctB b x74).days 1 7 then true else !within (ctB b x74).room 0 99)=true)))))
 (o43:qy b (∀ (x43:Nat),q11 b x43 (∀ (x47:Nat),q18 b x47 (∀ (x74:Nat),q1a b x74 ((bif bif bif !within (ctB b x74).frm 0 13 then true else !within (ctB b x74).days 1 7 then true else !within (ctB b x74).room 0 99 then true else !within (ctB b x74).pence 0 99)=true->80=checkB b)))))
 (o44:qy b (∀ (x43:Nat),q11 b x43 (∀ (x47:Nat),q18 b x47 (∀ (x74:Nat),q1b b x74 (inI ((x74:Int) + 1))))))
 (o45:qy b (∀ (x43:Nat),q11 b x43 (∀ (x47:Nat),q18 b x47 (∀ (x74:Nat),q1b b x74 ((x74:Int) + 1=(↑(x74 + 1):Int))))))
 (o46:qy b (∀ (x43:Nat),q11 b x43 (∀ (x47:Nat),q18 b x47 (∀ (x74:Nat),q1b b x74 (x74 + 1<=b.ctrs.length /\ ∀ (j:Nat),j < x74 + 1->okCtr (ctB b j)=true)))))
 (o47:qy b (∀ (x43:Nat),q11 b x43 (∀ (x47:Nat),q18 b x47 (∀ (x74:Nat),q1b b x74 (b.ctrs.length - (x74 + 1) < b.ctrs.length - x74)))))
 (o48:qy b (∀ (x43:Nat),q11 b x43 (∀ (x47:Nat),q18 b x47 (∀ (x74:Nat),q19 b x74 (decide ((x74:Int) < (↑(b.ctrs.length):Int))=false->0=checkB b))))) :
  Triple Tryz.prog 25 (s25 b):=by
 refine triple_of Tryz.func25 rfl Tryz.call25 T0_ok _ rfl rfl rfl rfl (Nat.le_of_ble_eq_true (by kernel_rfl)) (fun _ _ _ _ h=>h) ?_
 intro hpre C hC _ hE
 obtain ⟨P,w0,E0,av,hA,ro,df⟩:=C
 obtain ⟨rfl,rfl,rfl⟩:=hC
 refine swp_seq ?_
 refine zR [1] [0] (Ak 2 tv) ?_
 refine swp_seq ?_
 refine swp_seq ?_
 refine zC ([(19,CallSpec.eq (s52 b.rate 0 9) [true,true,true]),(27,CallSpec.eq (s52 b.rep 0 b.rate) [true,true,true])]) [1,38] [0] (Ak 5 (An (fun (y0:(!decide (3 < (↑(b.lines.length):Int)))=true)=>(An (Ak 1 tv) tv)) (An (fun (y1:(!decide (3 < (↑(b.lines.length):Int)))=true)=>(An (An (fun (y2:(!decide (3 < (↑(b.lines.length):Int)))=true)=>y1) tv) tv)) (An (fun (y3:(!decide (3 < (↑(b.lines.length):Int)))=true)=>(An (An (fun (y4:(!decide (3 < (↑(b.lines.length):Int)))=true)=>y3) tv) tv)) (An (fun (y5:(!decide (3 < (↑(b.lines.length):Int)))=true)=>(An (An (fun (y6:(!decide (3 < (↑(b.lines.length):Int)))=true)=>y5) (Ak 1 tv)) tv)) (An (An (fun (y7:decide (3 < (↑(b.lines.length):Int))=true)=>tv) (fun (y8:decide (3 < (↑(b.lines.length):Int))=false)=>(o0 hpre y8))) (Ak 1 (An (fun (y9:(!bif decide (3 < (↑(b.lines.length):Int)) then true else decide (6 < (↑(b.shown.length):Int)))=true)=>(An (Ak 1 tv) tv)) (An (fun (y10:(!bif decide (3 < (↑(b.lines.length):Int)) then true else decide (6 < (↑(b.shown.length):Int)))=true)=>(An (An (fun (y11:(!bif decide (3 < (↑(b.lines.length):Int)) then true else decide (6 < (↑(b.shown.length):Int)))=true)=>y10) tv) tv)) (An (fun (y12:(!bif decide (3 < (↑(b.lines.length):Int)) then true else decide (6 < (↑(b.shown.length):Int)))=true)=>(An (An (fun (y13:(!bif decide (3 < (↑(b.lines.length):Int)) then true else decide (6 < (↑(b.shown.length):Int)))=true)=>y12) tv) tv)) (An (fun (y14:(!bif decide (3 < (↑(b.lines.length):Int)) then true else decide (6 < (↑(b.shown.length):Int)))=true)=>(An (An (fun (y15:(!bif decide (3 < (↑(b.lines.length):Int)) then true else decide (6 < (↑(b.shown.length):Int)))=true)=>y14) (Ak 1 tv)) tv)) (An (An (fun (y16:(bif decide (3 < (↑(b.lines.length):Int)) then true else decide (6 < (↑(b.shown.length):Int)))=true)=>tv) (fun (y17:(bif decide (3 < (↑(b.lines.length):Int)) then true else decide (6 < (↑(b.shown.length):Int)))=false)=>(o1 hpre y17))) (Ak 1 (An (fun (y18:(!bif bif decide (3 < (↑(b.lines.length):Int)) then true else decide (6 < (↑(b.shown.length):Int)) then true else decide (3 < (↑(b.ctrs.length):Int)))=true)=>(An (Ak 1 tv) tv)) (An (fun (y19:(!bif bif decide (3 < (↑(b.lines.length):Int)) then true else decide (6 < (↑(b.shown.length):Int)) then true else decide (3 < (↑(b.ctrs.length):Int)))=true)=>(An (An (fun (y20:(!bif bif decide (3 < (↑(b.lines.length):Int)) then true else decide (6 < (↑(b.shown.length):Int)) then true else decide (3 < (↑(b.ctrs.length):Int)))=true)=>y19) tv) tv)) (An (fun (y21:(!bif bif decide (3 < (↑(b.lines.length):Int)) then true else decide (6 < (↑(b.shown.length):Int)) then true else decide (3 < (↑(b.ctrs.length):Int)))=true)=>(An (Ak 1 (An (fun (y22:(!bif bif decide (3 < (↑(b.lines.length):Int)) then true else decide (6 < (↑(b.shown.length):Int)) then true else decide (3 < (↑(b.ctrs.length):Int)))=true)=>y21) (Ak 2 tv))) (An (An (zr (iv b.rate)) (An (zr (iv 0)) (An (zr (iv 9)) tv))) (An (t52 b.rate (0) (9)) (Ak 2 (fun (i23:Env)=>tv)))))) (An (fun (y24:(!bif bif decide (3 < (↑(b.lines.length):Int)) then true else decide (6 < (↑(b.shown.length):Int)) then true else decide (3 < (↑(b.ctrs.length):Int)))=true)=>(An (An (fun (y25:(!bif bif decide (3 < (↑(b.lines.length):Int)) then true else decide (6 < (↑(b.shown.length):Int)) then true else decide (3 < (↑(b.ctrs.length):Int)))=true)=>y24) tv) tv)) (An (An (fun (y26:(bif bif decide (3 < (↑(b.lines.length):Int)) then true else decide (6 < (↑(b.shown.length):Int)) then true else decide (3 < (↑(b.ctrs.length):Int)))=true)=>tv) (fun (y27:(bif bif decide (3 < (↑(b.lines.length):Int)) then true else decide (6 < (↑(b.shown.length):Int)) then true else decide (3 < (↑(b.ctrs.length):Int)))=false)=>(o2 hpre y27))) (Ak 1 (An (fun (y28:(!bif bif bif decide (3 < (↑(b.lines.length):Int)) then true else decide (6 < (↑(b.shown.length):Int)) then true else decide (3 < (↑(b.ctrs.length):Int)) then true else !within b.rate 0 9)=true)=>(An (Ak 1 tv) tv)) (An (fun (y29:(!bif bif bif decide (3 < (↑(b.lines.length):Int)) then true else decide (6 < (↑(b.shown.length):Int)) then true else decide (3 < (↑(b.ctrs.length):Int)) then true else !within b.rate 0 9)=true)=>(An (An (fun (y30:(!bif bif bif decide (3 < (↑(b.lines.length):Int)) then true else decide (6 < (↑(b.shown.length):Int)) then true else decide (3 < (↑(b.ctrs.length):Int)) then true else !within b.rate 0 9)=true)=>y29) tv) tv)) (An (fun (y31:(!bif bif bif decide (3 < (↑(b.lines.length):Int)) then true else decide (6 < (↑(b.shown.length):Int)) then true else decide (3 < (↑(b.ctrs.length):Int)) then true else !within b.rate 0 9)=true)=>(An (Ak 1 tv) tv)) (An (fun (y32:(!bif bif bif decide (3 < (↑(b.lines.length):Int)) then true else decide (6 < (↑(b.shown.length):Int)) then true else decide (3 < (↑(b.ctrs.length):Int)) then true else !within b.rate 0 9)=true)=>(An (An (fun (y33:(!bif bif bif decide (3 < (↑(b.lines.length):Int)) then true else decide (6 < (↑(b.shown.length):Int)) then true else decide (3 < (↑(b.ctrs.length):Int)) then true else !within b.rate 0 9)=true)=>y32) tv) tv)) (An (fun (y34:(!bif bif bif decide (3 < (↑(b.lines.length):Int)) then true else decide (6 < (↑(b.shown.length):Int)) then true else decide (3 < (↑(b.ctrs.length):Int)) then true else !within b.rate 0 9)=true)=>(An (Ak 1 (An (fun (y35:(!bif bif bif decide (3 < (↑(b.lines.length):Int)) then true else decide (6 < (↑(b.shown.length):Int)) then true else decide (3 < (↑(b.ctrs.length):Int)) then true else !within b.rate 0 9)=true)=>y34) (Ak 1 (An (fun (y36:(!bif bif bif decide (3 < (↑(b.lines.length):Int)) then true else decide (6 < (↑(b.shown.length):Int)) then true else decide (3 < (↑(b.ctrs.length):Int)) then true else !within b.rate 0 9)=true)=>y34) tv)))) (An (An (zr (iv b.rep)) (An (zr (iv 0)) (An (zr (iv b.rate)) tv))) (An (t52 b.rep (0) b.rate) (Ak 2 (fun (i37:Env)=>tv)))))) (An (fun (y38:(!bif bif bif decide (3 < (↑(b.lines.length):Int)) then true else decide (6 < (↑(b.shown.length):Int)) then true else decide (3 < (↑(b.ctrs.length):Int)) then true else !within b.rate 0 9)=true)=>(An (An (fun (y39:(!bif bif bif decide (3 < (↑(b.lines.length):Int)) then true else decide (6 < (↑(b.shown.length):Int)) then true else decide (3 < (↑(b.ctrs.length):Int)) then true else !within b.rate 0 9)=true)=>y38) tv) tv)) (An (An (fun (y40:(bif bif bif decide (3 < (↑(b.lines.length):Int)) then true else decide (6 < (↑(b.shown.length):Int)) then true else decide (3 < (↑(b.ctrs.length):Int)) then true else !within b.rate 0 9)=true)=>tv) (fun (y41:(bif bif bif decide (3 < (↑(b.lines.length):Int)) then true else decide (6 < (↑(b.shown.length):Int)) then true else decide (3 < (↑(b.ctrs.length):Int)) then true else !within b.rate 0 9)=false)=>(o3 hpre y41))) tv)))))))))))))))))))))))))) ?_
 refine zI (bif bif bif bif decide (3 < (↑(b.lines.length):Int)) then true else decide (6 < (↑(b.shown.length):Int)) then true else decide (3 < (↑(b.ctrs.length):Int)) then true else !within b.rate 0 9 then true else !within b.rep 0 b.rate) (fun y42 => ?_) (fun y42 => ?_)
 ·refine swp_seq ?_
  refine zR [2] [] (Ak 1 tv) ?_
  refine swp_ret ?_
  exact zT [] (An (Ak 1 tv) (An (An (ci (o4 hpre y42)) (zr nilN)) (An (zr true) (An (zr true) (zr true)))))
 ·refine swp_skip ?_
  refine swp_seq ?_
  refine swp_seq ?_
  refine zR [1,3] [0] (Ak 1 tv) ?_
  refine swp_block ?_
  refine zL (Hint.ann (h25a b) [(1,AV.ptr 0 [])] [(0,OB.cells 26 (cBk b))] 10264) (zE hE [] [(0,.same 0)] [] [0] (An (An (An (zr (some (Src.same 0))) (zr nilP)) (An (An (ci (o5 hpre y42)) (zr nilN)) tv)) (An (An (An (zr (OB.cells 26 (cBk b))) (zr true)) tv) (An (zr true) (zr true))))) (o6 hpre y42) (fun (x43:Nat) hx43 => ?_)
  refine swp_seq ?_
  refine swp_seq ?_
  refine zR [1,3,43] [0] (Ak 5 tv) ?_
  refine zI (decide ((x43:Int) < (↑(b.lines.length):Int))) (fun y44 => ?_) (fun y44 => ?_)
  ·refine swp_skip ?_
   refine swp_seq ?_
   refine swp_block ?_
   refine swp_seq ?_
   refine zC ([(5,CallSpec.eq (c25 b x43) [true,true])]) [1,3,52] [0] (Ak 3 (An (An (o7 hpre y42 x43 hx43 y44) (o8 hpre y42 x43 hx43 y44)) (Ak 1 (An (An (An (zr (AV.agg (cSpan (lnB b x43)))) (An (zr (iv 9)) tv)) (An (t53 (lnB b x43) (9)) (Ak 2 (fun (i45:Env)=>tv)))) (Ak 1 tv))))) ?_
   refine zI (!isSpan (lnB b x43) 9) (fun y46 => ?_) (fun y46 => ?_)
   ·refine swp_seq ?_
    refine zR [2] [] (Ak 1 tv) ?_
    refine swp_ret ?_
    exact zT [] (An (Ak 1 tv) (An (An (ci (o9 hpre y42 x43 hx43 y44 y46)) (zr nilN)) (An (zr true) (An (zr true) (zr true)))))
   ·refine swp_skip ?_
    refine zR [1,3] [0] (Ak 1 (An (o10 hpre y42 x43 hx43 y44 y46) (Ak 1 tv))) ?_
    exact zn (zE hE [] [(0,.same 0)] [] [0] (An (An (An (zr (some (Src.same 0))) (zr nilP)) (An (An (ci (o11 hpre y42 x43 hx43 y44 y46)) (zr nilN)) tv)) (An (An (An (zr (OB.cells 26 (cBk b))) (zr true)) tv) (An (zr true) (zr true))))) (o12 hpre y42 x43 hx43 y44 y46) (o13 hpre y42 x43 hx43 y44 y46)
  ·refine swp_exit ?_
   refine swp_seq ?_
   refine swp_seq ?_
   refine zR [1,4] [0] (Ak 1 tv) ?_
   refine swp_block ?_
   refine zL (Hint.ann (h25b b) [(1,AV.ptr 0 [])] [(0,OB.cells 26 (cBk b))] 20312) (zE hE [] [(0,.same 0)] [] [0] (An (An (An (zr (some (Src.same 0))) (zr nilP)) (An (An (ci (o14 hpre y42 x43 hx43 y44)) (zr nilN)) tv)) (An (An (An (zr (OB.cells 26 (cBk b))) (zr true)) tv) (An (zr true) (zr true))))) (o15 hpre y42 x43 hx43 y44) (fun (x47:Nat) hx47 => ?_)
   refine swp_seq ?_
   refine swp_seq ?_
   refine zR [1,4,57] [0] (Ak 5 tv) ?_
   refine zI (decide ((x47:Int) < (↑(b.shown.length):Int))) (fun y48 => ?_) (fun y48 => ?_)
   ·refine swp_skip ?_
    refine swp_seq ?_
    refine swp_block ?_
    refine swp_seq ?_
    refine swp_seq ?_
    refine zR [1,4,5] [0,20392] (Ak 3 (An (An (o16 hpre y42 x43 hx43 y44 x47 hx47 y48) (o17 hpre y42 x43 hx43 y44 x47 hx47 y48)) (Ak 3 tv))) ?_
    refine swp_seq ?_
    refine zC ([(3,CallSpec.eq (s54 b (shB b x47).ad) [true,true]),(8,CallSpec.eq (s52 (shB b x47).day 0 13) [true,true,true]),(14,CallSpec.eq (s52 (shB b x47).ed 0 2) [true,true,true])]) [1,4,81] [0] (Ak 3 (An (An (An (zr (AV.agg (cBk b))) (An (zr (iv (shB b x47).ad)) tv)) (An (t54 (b) (shB b x47).ad) (An hpre (Ak 1 (fun (i49:Env)=>tv))))) (Ak 2 (An (fun (y50:(!!isAd b (shB b x47).ad)=true)=>(An (Ak 1 tv) tv)) (An (fun (y51:(!!isAd b (shB b x47).ad)=true)=>(An (An (fun (y52:(!!isAd b (shB b x47).ad)=true)=>y51) tv) tv)) (An (fun (y53:(!!isAd b (shB b x47).ad)=true)=>(An (Ak 1 (An (fun (y54:(!!isAd b (shB b x47).ad)=true)=>y53) (Ak 2 tv))) (An (An (zr (iv (shB b x47).day)) (An (zr (iv 0)) (An (zr (iv 13)) tv))) (An (t52 (shB b x47).day (0) (13)) (Ak 2 (fun (i55:Env)=>tv)))))) (An (fun (y56:(!!isAd b (shB b x47).ad)=true)=>(An (An (fun (y57:(!!isAd b (shB b x47).ad)=true)=>y56) tv) tv)) (An (An (fun (y58:(!isAd b (shB b x47).ad)=true)=>tv) (fun (y59:(!isAd b (shB b x47).ad)=false)=>(o18 hpre y42 x43 hx43 y44 x47 hx47 y48 y59))) (Ak 1 (An (fun (y60:(!bif !isAd b (shB b x47).ad then true else !within (shB b x47).day 0 13)=true)=>(An (Ak 1 tv) tv)) (An (fun (y61:(!bif !isAd b (shB b x47).ad then true else !within (shB b x47).day 0 13)=true)=>(An (An (fun (y62:(!bif !isAd b (shB b x47).ad then true else !within (shB b x47).day 0 13)=true)=>y61) tv) tv)) (An (fun (y63:(!bif !isAd b (shB b x47).ad then true else !within (shB b x47).day 0 13)=true)=>(An (Ak 1 (An (fun (y64:(!bif !isAd b (shB b x47).ad then true else !within (shB b x47).day 0 13)=true)=>y63) (Ak 2 tv))) (An (An (zr (iv (shB b x47).ed)) (An (zr (iv 0)) (An (zr (iv 2)) tv))) (An (t52 (shB b x47).ed (0) (2)) (Ak 2 (fun (i65:Env)=>tv)))))) (An (fun (y66:(!bif !isAd b (shB b x47).ad then true else !within (shB b x47).day 0 13)=true)=>(An (An (fun (y67:(!bif !isAd b (shB b x47).ad then true else !within (shB b x47).day 0 13)=true)=>y66) tv) tv)) (An (An (fun (y68:(bif !isAd b (shB b x47).ad then true else !within (shB b x47).day 0 13)=true)=>tv) (fun (y69:(bif !isAd b (shB b x47).ad then true else !within (shB b x47).day 0 13)=false)=>(o19 hpre y42 x43 hx43 y44 x47 hx47 y48 y69))) tv)))))))))))))) ?_
    refine zI (bif bif !isAd b (shB b x47).ad then true else !within (shB b x47).day 0 13 then true else !within (shB b x47).ed 0 2) (fun y70 => ?_) (fun y70 => ?_)
    ·refine swp_seq ?_
     refine zR [2] [] (Ak 1 tv) ?_
     refine swp_ret ?_
     exact zT [] (An (Ak 1 tv) (An (An (ci (o20 hpre y42 x43 hx43 y44 x47 hx47 y48 y70)) (zr nilN)) (An (zr true) (An (zr true) (zr true)))))
    ·refine swp_skip ?_
     refine swp_seq ?_
     refine zR [1,4,6] [0] (Ak 1 tv) ?_
     refine swp_block ?_
     refine zL (Hint.ann (h25c b x47) [(1,AV.ptr 0 []),(4,iv (x47:Int))] [(0,OB.cells 26 (cBk b))] 30552) (zE hE [] [(0,.same 0)] [4] [0] (An (An (An (zr (some (Src.same 0))) (zr nilP)) (An (An (zr (iv (x47:Int))) (zr true)) (An (An (ci (o21 hpre y42 x43 hx43 y44 x47 hx47 y48 y70)) (zr nilN)) tv))) (An (An (An (zr (OB.cells 26 (cBk b))) (zr true)) tv) (An (zr true) (zr true))))) (o22 hpre y42 x43 hx43 y44 x47 hx47 y48 y70) (fun (x71:Nat) hx71 => ?_)
     refine swp_seq ?_
     refine swp_seq ?_
     refine zR [1,4,6,84] [0] (Ak 3 tv) ?_
     refine zI (decide ((x71:Int) < (x47:Int))) (fun y72 => ?_) (fun y72 => ?_)
     ·refine swp_skip ?_
      refine swp_seq ?_
      refine swp_block ?_
      refine swp_seq ?_
      refine zR [1,4,6,97] [0] (Ak 3 (An (An (o23 hpre y42 x43 hx43 y44 x47 hx47 y48 y70 x71 hx71 y72) (o24 hpre y42 x43 hx43 y44 x47 hx47 y48 y70 x71 hx71 y72)) (Ak 4 (An (An (o25 hpre y42 x43 hx43 y44 x47 hx47 y48 y70 x71 hx71 y72) (o26 hpre y42 x43 hx43 y44 x47 hx47 y48 y70 x71 hx71 y72)) (Ak 2 tv))))) ?_
      refine zI (decide ((shB b x71).ad=(shB b x47).ad) && (decide ((shB b x71).day=(shB b x47).day) && (decide ((shB b x71).ed=(shB b x47).ed) && true))) (fun y73 => ?_) (fun y73 => ?_)
      ·refine swp_seq ?_
       refine zR [2] [] (Ak 1 tv) ?_
       refine swp_ret ?_
       exact zT [] (An (Ak 1 tv) (An (An (ci (o27 hpre y42 x43 hx43 y44 x47 hx47 y48 y70 x71 hx71 y72 y73)) (zr nilN)) (An (zr true) (An (zr true) (zr true)))))
      ·refine swp_skip ?_
       refine zR [1,4,6] [0] (Ak 1 (An (o28 hpre y42 x43 hx43 y44 x47 hx47 y48 y70 x71 hx71 y72 y73) (Ak 1 tv))) ?_
       exact zn (zE hE [] [(0,.same 0)] [4] [0] (An (An (An (zr (some (Src.same 0))) (zr nilP)) (An (An (zr (iv (x47:Int))) (zr true)) (An (An (ci (o29 hpre y42 x43 hx43 y44 x47 hx47 y48 y70 x71 hx71 y72 y73)) (zr nilN)) tv))) (An (An (An (zr (OB.cells 26 (cBk b))) (zr true)) tv) (An (zr true) (zr true))))) (o30 hpre y42 x43 hx43 y44 x47 hx47 y48 y70 x71 hx71 y72 y73) (o31 hpre y42 x43 hx43 y44 x47 hx47 y48 y70 x71 hx71 y72 y73)
     ·refine swp_exit ?_
      refine zR [1,4] [0] (Ak 1 (An (o32 hpre y42 x43 hx43 y44 x47 hx47 y48 y70 x71 hx71 y72) (Ak 1 tv))) ?_
      exact zn (zE hE [] [(0,.same 0)] [] [0] (An (An (An (zr (some (Src.same 0))) (zr nilP)) (An (An (ci (o33 hpre y42 x43 hx43 y44 x47 hx47 y48 y70 x71 hx71 y72)) (zr nilN)) tv)) (An (An (An (zr (OB.cells 26 (cBk b))) (zr true)) tv) (An (zr true) (zr true))))) (o34 hpre y42 x43 hx43 y44 x47 hx47 y48 y70 x71 hx71 y72) (o35 hpre y42 x43 hx43 y44 x47 hx47 y48 y70 x71 hx71 y72)
   ·refine swp_exit ?_
    refine swp_seq ?_
    refine swp_seq ?_
    refine zR [1,7] [0] (Ak 1 tv) ?_
    refine swp_block ?_
    refine zL (Hint.ann (h25d b) [(1,AV.ptr 0 [])] [(0,OB.cells 26 (cBk b))] 30360) (zE hE [] [(0,.same 0)] [] [0] (An (An (An (zr (some (Src.same 0))) (zr nilP)) (An (An (ci (o36 hpre y42 x43 hx43 y44 x47 hx47 y48)) (zr nilN)) tv)) (An (An (An (zr (OB.cells 26 (cBk b))) (zr true)) tv) (An (zr true) (zr true))))) (o37 hpre y42 x43 hx43 y44 x47 hx47 y48) (fun (x74:Nat) hx74 => ?_)
    refine swp_seq ?_
    refine swp_seq ?_
    refine zR [1,7,102] [0] (Ak 5 tv) ?_
    refine zI (decide ((x74:Int) < (↑(b.ctrs.length):Int))) (fun y75 => ?_) (fun y75 => ?_)
    ·refine swp_skip ?_
     refine swp_seq ?_
     refine swp_block ?_
     refine swp_seq ?_
     refine zR [1,7,8] [0,30440] (Ak 3 (An (An (o38 hpre y42 x43 hx43 y44 x47 hx47 y48 x74 hx74 y75) (o39 hpre y42 x43 hx43 y44 x47 hx47 y48 x74 hx74 y75)) (Ak 3 tv))) ?_
     refine swp_seq ?_
     refine zC ([(2,CallSpec.eq (s52 (ctB b x74).frm 0 13) [true,true,true]),(7,CallSpec.eq (s52 (ctB b x74).days 1 7) [true,true,true]),(13,CallSpec.eq (s52 (ctB b x74).room 0 99) [true,true,true]),(19,CallSpec.eq (s52 (ctB b x74).pence 0 99) [true,true,true])]) [1,7,131] [0] (Ak 2 (An (An (An (zr (iv (ctB b x74).frm)) (An (zr (iv 0)) (An (zr (iv 13)) tv))) (An (t52 (ctB b x74).frm (0) (13)) (Ak 2 (fun (i76:Env)=>tv)))) (Ak 2 (An (fun (y77:(!!within (ctB b x74).frm 0 13)=true)=>(An (Ak 1 tv) tv)) (An (fun (y78:(!!within (ctB b x74).frm 0 13)=true)=>(An (An (fun (y79:(!!within (ctB b x74).frm 0 13)=true)=>y78) tv) tv)) (An (fun (y80:(!!within (ctB b x74).frm 0 13)=true)=>(An (Ak 1 (An (fun (y81:(!!within (ctB b x74).frm 0 13)=true)=>y80) (Ak 2 tv))) (An (An (zr (iv (ctB b x74).days)) (An (zr (iv 1)) (An (zr (iv 7)) tv))) (An (t52 (ctB b x74).days (1) (7)) (Ak 2 (fun (i82:Env)=>tv)))))) (An (fun (y83:(!!within (ctB b x74).frm 0 13)=true)=>(An (An (fun (y84:(!!within (ctB b x74).frm 0 13)=true)=>y83) tv) tv)) (An (An (fun (y85:(!within (ctB b x74).frm 0 13)=true)=>tv) (fun (y86:(!within (ctB b x74).frm 0 13)=false)=>(o40 hpre y42 x43 hx43 y44 x47 hx47 y48 x74 hx74 y75 y86))) (Ak 1 (An (fun (y87:(!bif !within (ctB b x74).frm 0 13 then true else !within (ctB b x74).days 1 7)=true)=>(An (Ak 1 tv) tv)) (An (fun (y88:(!bif !within (ctB b x74).frm 0 13 then true else !within (ctB b x74).days 1 7)=true)=>(An (An (fun (y89:(!bif !within (ctB b x74).frm 0 13 then true else !within (ctB b x74).days 1 7)=true)=>y88) tv) tv)) (An (fun (y90:(!bif !within (ctB b x74).frm 0 13 then true else !within (ctB b x74).days 1 7)=true)=>(An (Ak 1 (An (fun (y91:(!bif !within (ctB b x74).frm 0 13 then true else !within (ctB b x74).days 1 7)=true)=>y90) (Ak 2 tv))) (An (An (zr (iv (ctB b x74).room)) (An (zr (iv 0)) (An (zr (iv 99)) tv))) (An (t52 (ctB b x74).room (0) (99)) (Ak 2 (fun (i92:Env)=>tv)))))) (An (fun (y93:(!bif !within (ctB b x74).frm 0 13 then true else !within (ctB b x74).days 1 7)=true)=>(An (An (fun (y94:(!bif !within (ctB b x74).frm 0 13 then true else !within (ctB b x74).days 1 7)=true)=>y93) tv) tv)) (An (An (fun (y95:(bif !within (ctB b x74).frm 0 13 then true else !within (ctB b x74).days 1 7)=true)=>tv) (fun (y96:(bif !within (ctB b x74).frm 0 13 then true else !within (ctB b x74).days 1 7)=false)=>(o41 hpre y42 x43 hx43 y44 x47 hx47 y48 x74 hx74 y75 y96))) (Ak 1 (An (fun (y97:(!bif bif !within (ctB b x74).frm 0 13 then true else !within (ctB b x74).days 1 7 then true else !within (ctB b x74).room 0 99)=true)=>(An (Ak 1 tv) tv)) (An (fun (y98:(!bif bif !within (ctB b x74).frm 0 13 then true else !within (ctB b x74).days 1 7 then true else !within (ctB b x74).room 0 99)=true)=>(An (An (fun (y99:(!bif bif !within (ctB b x74).frm 0 13 then true else !within (ctB b x74).days 1 7 then true else !within (ctB b x74).room 0 99)=true)=>y98) tv) tv)) (An (fun (y100:(!bif bif !within (ctB b x74).frm 0 13 then true else !within (ctB b x74).days 1 7 then true else !within (ctB b x74).room 0 99)=true)=>(An (Ak 1 (An (fun (y101:(!bif bif !within (ctB b x74).frm 0 13 then true else !within (ctB b x74).days 1 7 then true else !within (ctB b x74).room 0 99)=true)=>y100) (Ak 2 tv))) (An (An (zr (iv (ctB b x74).pence)) (An (zr (iv 0)) (An (zr (iv 99)) tv))) (An (t52 (ctB b x74).pence (0) (99)) (Ak 2 (fun (i102:Env)=>tv)))))) (An (fun (y103:(!bif bif !within (ctB b x74).frm 0 13 then true else !within (ctB b x74).days 1 7 then true else !within (ctB b x74).room 0 99)=true)=>(An (An (fun (y104:(!bif bif !within (ctB b x74).frm 0 13 then true else !within (ctB b x74).days 1 7 then true else !within (ctB b x74).room 0 99)=true)=>y103) tv) tv)) (An (An (fun (y105:(bif bif !within (ctB b x74).frm 0 13 then true else !within (ctB b x74).days 1 7 then true else !within (ctB b x74).room 0 99)=true)=>tv) (fun (y106:(bif bif !within (ctB b x74).frm 0 13 then true else !within (ctB b x74).days 1 7 then true else !within (ctB b x74).room 0 99)=false)=>(o42 hpre y42 x43 hx43 y44 x47 hx47 y48 x74 hx74 y75 y106))) tv)))))))))))))))))))) ?_
     refine zI (bif bif bif !within (ctB b x74).frm 0 13 then true else !within (ctB b x74).days 1 7 then true else !within (ctB b x74).room 0 99 then true else !within (ctB b x74).pence 0 99) (fun y107 => ?_) (fun y107 => ?_)
     ·refine swp_seq ?_
      refine zR [2] [] (Ak 1 tv) ?_
      refine swp_ret ?_
      exact zT [] (An (Ak 1 tv) (An (An (ci (o43 hpre y42 x43 hx43 y44 x47 hx47 y48 x74 hx74 y75 y107)) (zr nilN)) (An (zr true) (An (zr true) (zr true)))))
     ·refine swp_skip ?_
      refine zR [1,7] [0] (Ak 1 (An (o44 hpre y42 x43 hx43 y44 x47 hx47 y48 x74 hx74 y75 y107) (Ak 1 tv))) ?_
      exact zn (zE hE [] [(0,.same 0)] [] [0] (An (An (An (zr (some (Src.same 0))) (zr nilP)) (An (An (ci (o45 hpre y42 x43 hx43 y44 x47 hx47 y48 x74 hx74 y75 y107)) (zr nilN)) tv)) (An (An (An (zr (OB.cells 26 (cBk b))) (zr true)) tv) (An (zr true) (zr true))))) (o46 hpre y42 x43 hx43 y44 x47 hx47 y48 x74 hx74 y75 y107) (o47 hpre y42 x43 hx43 y44 x47 hx47 y48 x74 hx74 y75 y107)
    ·refine swp_exit ?_
     refine swp_seq ?_
     refine zR [2] [] (Ak 1 tv) ?_
     refine swp_ret ?_
     exact zT [] (An (Ak 1 tv) (An (An (ci (o48 hpre y42 x43 hx43 y44 x47 hx47 y48 x74 hx74 y75)) (zr nilN)) (An (zr true) (An (zr true) (zr true)))))
theorem t25 (b:Book):Triple Tryz.prog 25 (s25 b):=by
 apply w25
 all_goals (try delta qx qy qz q10 q11 q12 q13 q14 q15 q16 q17 q18 q19 q1a q1b)
 case o4=>intro hp h; rw [head8] at h; exact chk_head (by simpa using h)
 case o9=>intro hp h x hx hl h2; simp only [decide_eq_true_eq] at hl; exact chk_ln (x:=x) (by omega) (by unfold okLn; simpa using h2)
 case o12=>intro hp h x hx hl h2; simp only [decide_eq_true_eq] at hl; exact ⟨by omega,lt_succ_cases hx.2 (by unfold okLn; simpa using h2)⟩
 case o20 =>
  intro hp h x hx hl y hy hl2 h2
  simp only [decide_eq_true_eq] at hl2
  refine chk_sh (x:=y) (by omega) ?_
  unfold okShn
  revert h2
  cases isAd b (shB b y).ad <;> cases within (shB b y).day 0 13 <;> cases within (shB b y).ed 0 2 <;> intro h2 <;> first | rfl | cases h2
 case o27 =>
  intro hp h x hx hl y hy hl2 h2 z hz hl3 h3
  simp only [decide_eq_true_eq] at hl2 hl3
  rw [shn_eq] at h3
  refine chk_sh (x:=y) (by omega) ?_
  have:((List.range y).all fun k => !decide (shB b k=shB b y))=false:=by
   rw [List.all_eq_false]
   refine ⟨z,List.mem_range.2 (by omega),?_⟩
   have e:=of_decide_eq_true h3
   rw [decide_eq_true e.symm]; simp
  unfold okShn; rw [this]; simp
 case o30 =>
  intro hp h x hx hl y hy hl2 h2 z hz hl3 h3
  simp only [decide_eq_true_eq] at hl2 hl3
  rw [shn_eq] at h3
  have e:=of_decide_eq_false h3
  exact ⟨by omega,lt_succ_cases hz.2 (decide_eq_false fun h=>e h.symm)⟩
 case o34 =>
  intro hp h x hx hl y hy hl2 h2 z hz hl3
  simp only [decide_eq_true_eq,decide_eq_false_iff_not] at hl2 hl3
  refine ⟨by omega,lt_succ_cases hy.2 ?_⟩
  have:((List.range y).all fun k => !decide (shB b k=shB b y))=true:=by
   rw [List.all_eq_true]
   intro k hk
   rw [hz.2 k (by have:=List.mem_range.1 hk; omega)]; rfl
  unfold okShn
  rw [this]
  revert h2
  cases isAd b (shB b y).ad <;> cases within (shB b y).day 0 13 <;> cases within (shB b y).ed 0 2 <;> intro h2 <;> first | rfl | cases h2
 case o43=>intro hp h x hx hl y hy hl2 z hz hl3 h2; rw [ct8] at h2; simp only [decide_eq_true_eq] at hl3; exact chk_ct (x:=z) (by omega) (by simpa using h2)
 case o46=>intro hp h x hx hl y hy hl2 z hz hl3 h2; rw [ct8] at h2; simp only [decide_eq_true_eq] at hl3; exact ⟨by omega,lt_succ_cases hz.2 (by simpa using h2)⟩
 case o48 =>
  intro hp h x hx hl y hy hl2 z hz hl3
  rw [head8] at h
  simp only [decide_eq_false_iff_not] at hl hl2 hl3
  exact chk_ok (by simpa using h) (fun j hj=>hx.2 j (by omega)) (fun j hj=>hy.2 j (by omega)) (fun j hj=>hz.2 j (by omega))
 all_goals (simp only [fitsB,big,inI] at *)
 all_goals (try ((repeat intro _) <;> (try simp only [Bool.cond_true_left,Bool.cond_false_right,Bool.not_not,Bool.not_eq_true',Bool.not_eq_false',Bool.or_eq_true,Bool.or_eq_false_iff,Bool.and_eq_true,decide_eq_true_eq,decide_eq_false_iff_not,inI,big] at *) <;> first | (exact rfl) | omega | (exact ⟨Nat.zero_le _,fun j hj=>absurd hj (Nat.not_lt_zero j)⟩) | (simp_all; done) | (simp_all; omega)))
theorem w24 (b:Book)
  (o0:fitsB b->decide (40 < (↑(b.lines.length):Int))=false->(!decide (40 < (↑(b.lines.length):Int)))=true)
  (o1:fitsB b->(bif decide (40 < (↑(b.lines.length):Int)) then true else decide (40 < (↑(b.shown.length):Int)))=false->(!bif decide (40 < (↑(b.lines.length):Int)) then true else decide (40 < (↑(b.shown.length):Int)))=true)
  (o2:fitsB b->(bif bif decide (40 < (↑(b.lines.length):Int)) then true else decide (40 < (↑(b.shown.length):Int)) then true else decide (40 < (↑(b.ctrs.length):Int)))=hugeB b) :
  Triple Tryz.prog 24 (s24 b):=by
 refine triple_of Tryz.func24 rfl Tryz.call24 T0_ok _ rfl rfl rfl rfl (Nat.le_of_ble_eq_true (by kernel_rfl)) (fun _ _ _ _ h=>h) ?_
 intro hpre C hC _ hE
 obtain ⟨P,w0,E0,av,hA,ro,df⟩:=C
 obtain ⟨rfl,rfl,rfl⟩:=hC
 refine swp_seq ?_
 refine zR [1] [0] (Ak 2 tv) ?_
 refine swp_seq ?_
 refine zR [2] [] (Ak 5 (An (fun (y0:(!decide (40 < (↑(b.lines.length):Int)))=true)=>(An (Ak 1 tv) tv)) (An (fun (y1:(!decide (40 < (↑(b.lines.length):Int)))=true)=>(An (An (fun (y2:(!decide (40 < (↑(b.lines.length):Int)))=true)=>y1) tv) tv)) (An (fun (y3:(!decide (40 < (↑(b.lines.length):Int)))=true)=>(An (An (fun (y4:(!decide (40 < (↑(b.lines.length):Int)))=true)=>y3) tv) tv)) (An (fun (y5:(!decide (40 < (↑(b.lines.length):Int)))=true)=>(An (An (fun (y6:(!decide (40 < (↑(b.lines.length):Int)))=true)=>y5) (Ak 1 tv)) tv)) (An (An (fun (y7:decide (40 < (↑(b.lines.length):Int))=true)=>tv) (fun (y8:decide (40 < (↑(b.lines.length):Int))=false)=>(o0 hpre y8))) (Ak 1 (An (fun (y9:(!bif decide (40 < (↑(b.lines.length):Int)) then true else decide (40 < (↑(b.shown.length):Int)))=true)=>(An (Ak 1 tv) tv)) (An (fun (y10:(!bif decide (40 < (↑(b.lines.length):Int)) then true else decide (40 < (↑(b.shown.length):Int)))=true)=>(An (An (fun (y11:(!bif decide (40 < (↑(b.lines.length):Int)) then true else decide (40 < (↑(b.shown.length):Int)))=true)=>y10) tv) tv)) (An (fun (y12:(!bif decide (40 < (↑(b.lines.length):Int)) then true else decide (40 < (↑(b.shown.length):Int)))=true)=>(An (An (fun (y13:(!bif decide (40 < (↑(b.lines.length):Int)) then true else decide (40 < (↑(b.shown.length):Int)))=true)=>y12) tv) tv)) (An (fun (y14:(!bif decide (40 < (↑(b.lines.length):Int)) then true else decide (40 < (↑(b.shown.length):Int)))=true)=>(An (An (fun (y15:(!bif decide (40 < (↑(b.lines.length):Int)) then true else decide (40 < (↑(b.shown.length):Int)))=true)=>y14) (Ak 1 tv)) tv)) (An (An (fun (y16:(bif decide (40 < (↑(b.lines.length):Int)) then true else decide (40 < (↑(b.shown.length):Int)))=true)=>tv) (fun (y17:(bif decide (40 < (↑(b.lines.length):Int)) then true else decide (40 < (↑(b.shown.length):Int)))=false)=>(o1 hpre y17))) (Ak 1 tv))))))))))))) ?_
 refine swp_ret ?_
 exact zT [] (An (Ak 1 tv) (An (An (cb (o2 hpre)) (zr nilN)) (An (zr true) (An (zr true) (zr true)))))
theorem t24 (b:Book):Triple Tryz.prog 24 (s24 b):=by
 apply w24
 case o2=>intro _; unfold hugeB; cases decide (40 < (b.lines.length:Int)) <;> cases decide (40 < (b.shown.length:Int)) <;> rfl
 all_goals (try ((repeat intro _) <;> (try simp only [Bool.cond_true_left,Bool.cond_false_right,Bool.not_not,Bool.not_eq_true',Bool.not_eq_false',Bool.or_eq_true,Bool.or_eq_false_iff,Bool.and_eq_true,decide_eq_true_eq,decide_eq_false_iff_not,inI,big] at *) <;> first | (exact rfl) | omega | (exact ⟨Nat.zero_le _,fun j hj=>absurd hj (Nat.not_lt_zero j)⟩) | (simp_all; done) | (simp_all; omega)))
abbrev q1c (b:Book) (ad:Int) (day:Int) (x0:Nat) (P:Prop):Prop:=(x0<=b.shown.length /\ ∀ (j:Nat),j < x0->(decide ((shB b j).ad=ad) && decide ((shB b j).day=day))=false)->P
abbrev q1d (b:Book) (ad:Int) (day:Int) (x0:Nat) (P:Prop):Prop:=q1c b ad day x0 (decide ((x0:Int) < (↑(b.shown.length):Int))=true->P)
abbrev q1e (b:Book) (ad:Int) (day:Int) (x0:Nat) (P:Prop):Prop:=q1d b ad day x0 ((bif decide ((shB b x0).ad=ad) then decide ((shB b x0).day=day) else false)=false->P)
theorem w55 (b:Book) (ad:Int) (day:Int)
 (o0:fitsB b->0=(↑0:Int))
 (o1:fitsB b->0<=b.shown.length /\ ∀ (j:Nat),j < 0->(decide ((shB b j).ad=ad) && decide ((shB b j).day=day))=false)
 (o2:fitsB b -> ∀ (x0:Nat),q1d b ad day x0 (0<=(x0:Int)))
 (o3:fitsB b -> ∀ (x0:Nat),q1d b ad day x0 ((x0:Int) < (↑(b.shown.length):Int)))
 (o4:fitsB b -> ∀ (x0:Nat),q1d b ad day x0 (decide ((shB b x0).ad=ad)=true->0<=(x0:Int)))
 (o5:fitsB b -> ∀ (x0:Nat),q1d b ad day x0 (decide ((shB b x0).ad=ad)=true->(x0:Int) < (↑(b.shown.length):Int)))
 (o6:fitsB b -> ∀ (x0:Nat),q1d b ad day x0 ((bif decide ((shB b x0).ad=ad) then decide ((shB b x0).day=day) else false)=true->true=stoodB b ad day))
 (o7:fitsB b -> ∀ (x0:Nat),q1e b ad day x0 (inI ((x0:Int) + 1)))
 (o8:fitsB b -> ∀ (x0:Nat),q1e b ad day x0 ((x0:Int) + 1=(↑(x0 + 1):Int)))
 (o9:fitsB b -> ∀ (x0:Nat),q1e b ad day x0 (x0 + 1<=b.shown.length /\ ∀ (j:Nat),j < x0 + 1->(decide ((shB b j).ad=ad) && decide ((shB b j).day=day))=false))
 (o10:fitsB b -> ∀ (x0:Nat),q1e b ad day x0 (b.shown.length - (x0 + 1) < b.shown.length - x0))
 (o11:fitsB b -> ∀ (x0:Nat),q1c b ad day x0 (decide ((x0:Int) < (↑(b.shown.length):Int))=false->false=stoodB b ad day)) :
  Triple Tryz.prog 55 (s55 b ad day):=by
 refine triple_of Tryz.func55 rfl Tryz.call55 T0_ok _ rfl rfl rfl rfl (Nat.le_of_ble_eq_true (by kernel_rfl)) (fun _ _ _ _ h=>h) ?_
 intro hpre C hC _ hE
 obtain ⟨P,w0,E0,av,hA,ro,df⟩:=C
 obtain ⟨rfl,rfl,rfl⟩:=hC
 refine swp_seq ?_
 refine zR [1,2,3] [0] (Ak 2 tv) ?_
 refine swp_seq ?_
 refine swp_seq ?_
 refine zR [1,2,3,7] [0] (Ak 1 tv) ?_
 refine swp_block ?_
 refine zL (Hint.ann (h55 b ad day) [(1,iv ad),(2,iv day),(3,AV.ptr 0 [])] [(0,OB.cells 26 (cBk b))] 10024) (zE hE [] [(0,.same 0)] [1,2] [0] (An (An (An (zr (iv ad)) (zr true)) (An (An (zr (iv day)) (zr true)) (An (An (zr (some (Src.same 0))) (zr nilP)) (An (An (ci (o0 hpre)) (zr nilN)) tv)))) (An (An (An (zr (OB.cells 26 (cBk b))) (zr true)) tv) (An (zr true) (zr true))))) (o1 hpre) (fun (x0:Nat) hx0 => ?_)
 refine swp_seq ?_
 refine swp_seq ?_
 refine zR [1,2,3,7,12] [0] (Ak 5 tv) ?_
 refine zI (decide ((x0:Int) < (↑(b.shown.length):Int))) (fun y1 => ?_) (fun y1 => ?_)
 ·refine swp_skip ?_
  refine swp_seq ?_
  refine swp_block ?_
  refine swp_seq ?_
  refine zR [1,2,3,7,32] [0] (Ak 3 (An (An (o2 hpre x0 hx0 y1) (o3 hpre x0 hx0 y1)) (Ak 5 (An (fun (y2:decide ((shB b x0).ad=ad)=true)=>(An (Ak 1 tv) tv)) (An (fun (y3:decide ((shB b x0).ad=ad)=true)=>(An (An (fun (y4:decide ((shB b x0).ad=ad)=true)=>y3) tv) tv)) (An (fun (y5:decide ((shB b x0).ad=ad)=true)=>(An (Ak 1 tv) tv)) (An (fun (y6:decide ((shB b x0).ad=ad)=true)=>(An (An (fun (y7:decide ((shB b x0).ad=ad)=true)=>y6) (An (fun (y8:decide ((shB b x0).ad=ad)=true)=>y6) tv)) (An (o4 hpre x0 hx0 y1 y6) (o5 hpre x0 hx0 y1 y6)))) (An (fun (y9:decide ((shB b x0).ad=ad)=true)=>(An (An (fun (y10:decide ((shB b x0).ad=ad)=true)=>y9) tv) tv)) (An (fun (y11:decide ((shB b x0).ad=ad)=true)=>(An (An (fun (y12:decide ((shB b x0).ad=ad)=true)=>y11) tv) tv)) (An (fun (y13:decide ((shB b x0).ad=ad)=true)=>(An (Ak 1 tv) tv)) (An (fun (y14:decide ((shB b x0).ad=ad)=true)=>(An (An (fun (y15:decide ((shB b x0).ad=ad)=true)=>y14) (An (fun (y16:decide ((shB b x0).ad=ad)=true)=>y14) tv)) tv)) (An (An (fun (y17:decide ((shB b x0).ad=ad)=true)=>y17) (fun (y18:decide ((shB b x0).ad=ad)=false)=>tv)) tv)))))))))))) ?_
  refine zI (bif decide ((shB b x0).ad=ad) then decide ((shB b x0).day=day) else false) (fun y19 => ?_) (fun y19 => ?_)
  ·refine swp_seq ?_
   refine zR [6] [] (Ak 1 tv) ?_
   refine swp_ret ?_
   exact zT [] (An (Ak 1 tv) (An (An (cb (o6 hpre x0 hx0 y1 y19)) (zr nilN)) (An (zr true) (An (zr true) (zr true)))))
  ·refine swp_skip ?_
   refine zR [1,2,3,7] [0] (Ak 1 (An (o7 hpre x0 hx0 y1 y19) (Ak 1 tv))) ?_
   exact zn (zE hE [] [(0,.same 0)] [1,2] [0] (An (An (An (zr (iv ad)) (zr true)) (An (An (zr (iv day)) (zr true)) (An (An (zr (some (Src.same 0))) (zr nilP)) (An (An (ci (o8 hpre x0 hx0 y1 y19)) (zr nilN)) tv)))) (An (An (An (zr (OB.cells 26 (cBk b))) (zr true)) tv) (An (zr true) (zr true))))) (o9 hpre x0 hx0 y1 y19) (o10 hpre x0 hx0 y1 y19)
 ·refine swp_exit ?_
  refine swp_seq ?_
  refine zR [6] [] (Ak 1 tv) ?_
  refine swp_ret ?_
  exact zT [] (An (Ak 1 tv) (An (An (cb (o11 hpre x0 hx0 y1)) (zr nilN)) (An (zr true) (An (zr true) (zr true)))))
theorem t55 (b:Book) (ad day:Int):Triple Tryz.prog 55 (s55 b ad day):=by
 apply w55
 all_goals (try delta q1c q1d q1e)
 case o6 =>
  intro hp x hx hl h
  simp only [decide_eq_true_eq] at hl
  symm
  unfold stoodB
  rw [List.any_eq_true]
  refine ⟨shB b x,getD_mem _ _ (by omega),?_⟩
  rw [Bool.cond_false_right] at h
  exact h
 case o9 =>
  intro hp x hx hl h
  simp only [decide_eq_true_eq] at hl
  rw [Bool.cond_false_right] at h
  exact ⟨by omega,lt_succ_cases hx.2 h⟩
 case o11 =>
  intro hp x hx hl
  simp only [decide_eq_false_iff_not] at hl
  symm
  exact any_idx b.shown default (fun s=>decide (s.ad=ad) && decide (s.day=day)) fun j hj=>hx.2 j (by omega)
 all_goals (simp only [fitsB,big,inI] at *)
 all_goals (try ((repeat intro _) <;> (try simp only [Bool.cond_true_left,Bool.cond_false_right,Bool.not_not,Bool.not_eq_true',Bool.not_eq_false',Bool.or_eq_true,Bool.or_eq_false_iff,Bool.and_eq_true,decide_eq_true_eq,decide_eq_false_iff_not,inI,big] at *) <;> first | (exact rfl) | omega | (exact ⟨Nat.zero_le _,fun j hj=>absurd hj (Nat.not_lt_zero j)⟩) | (simp_all; done) | (simp_all; omega)))
abbrev q1f (b:Book) (P:Prop):Prop:=smallB b->P
abbrev q1g (x0:Nat) (P:Prop):Prop:=x0<=14->P
abbrev q1h (x0:Nat) (P:Prop):Prop:=q1g x0 (decide ((x0:Int)<=13)=true->P)
abbrev q1i (b:Book) (x2:Nat) (P:Prop):Prop:=x2<=b.lines.length->P
abbrev q1j (b:Book) (x2:Nat) (P:Prop):Prop:=q1i b x2 (decide ((x2:Int) < (↑(b.lines.length):Int))=true->P)
abbrev q1k (b:Book) (x0:Nat) (x2:Nat) (P:Prop):Prop:=q1j b x2 (stoodB b (x2:Int) (x0:Int)=true->P)
abbrev q1l (b:Book) (x0:Nat) (x2:Nat) (P:Prop):Prop:=q1j b x2 (stoodB b (x2:Int) (x0:Int)=false->P)
abbrev q1m (b:Book) (x2:Nat) (P:Prop):Prop:=q1i b x2 (decide ((x2:Int) < (↑(b.lines.length):Int))=false->P)
theorem w26 (b:Book)
 (o0:q1f b (0=(↑0:Int)))
 (o1:q1f b (List.length (stdTo b 0 0)=0))
 (o2:q1f b (0<=14))
 (o3:q1f b (∀ (x0:Nat),q1h x0 (0=(↑0:Int))))
 (o4:q1f b (∀ (x0:Nat),q1h x0 (0<=b.lines.length)))
 (o5:q1f b (∀ (x0:Nat),q1h x0 (∀ (x2:Nat),q1j b x2 (fitsB b))))
 (o6:q1f b (∀ (x0:Nat),q1h x0 (∀ (x2:Nat),q1k b x0 x2 ((stdTo b x0 x2).length + 1<=65536))))
 (o7:q1f b (∀ (x0:Nat),q1h x0 (∀ (x2:Nat),q1k b x0 x2 (inI ((x2:Int) + 1)))))
 (o8:q1f b (∀ (x0:Nat),q1h x0 (∀ (x2:Nat),q1k b x0 x2 ((x2:Int) + 1=(↑(x2 + 1):Int)))))
 (o9:q1f b (∀ (x0:Nat),q1h x0 (∀ (x2:Nat),q1k b x0 x2 ((stdTo b x0 x2).length + 1=(stdTo b x0 (x2 + 1)).length))))
 (o10:q1f b (∀ (x0:Nat),q1h x0 (∀ (x2:Nat),q1k b x0 x2 (∀ (i8:Nat),i8 < (stdTo b x0 x2).length + 1->catF (stdTo b x0 x2).length (fun (i:Nat)=>cSday ((stdTo b x0 x2).getD i default)) (fun (j:Nat)=>List.getD [[iv (x2:Int),iv (x0:Int)]] j (TI.za ti54)) i8=cSday ((stdTo b x0 (x2 + 1)).getD i8 default)))))
 (o11:q1f b (∀ (x0:Nat),q1h x0 (∀ (x2:Nat),q1k b x0 x2 (x2 + 1<=b.lines.length))))
 (o12:q1f b (∀ (x0:Nat),q1h x0 (∀ (x2:Nat),q1k b x0 x2 (b.lines.length - (x2 + 1) < b.lines.length - x2))))
 (o13:q1f b (∀ (x0:Nat),q1h x0 (∀ (x2:Nat),q1l b x0 x2 (inI ((x2:Int) + 1)))))
 (o14:q1f b (∀ (x0:Nat),q1h x0 (∀ (x2:Nat),q1l b x0 x2 ((x2:Int) + 1=(↑(x2 + 1):Int)))))
 (o15:q1f b (∀ (x0:Nat),q1h x0 (∀ (x2:Nat),q1l b x0 x2 ((stdTo b x0 x2).length=(stdTo b x0 (x2 + 1)).length))))
 (o16:q1f b (∀ (x0:Nat),q1h x0 (∀ (x2:Nat),q1l b x0 x2 (∀ (i10:Nat),i10 < (stdTo b x0 x2).length->cSday ((stdTo b x0 x2).getD i10 default)=cSday ((stdTo b x0 (x2 + 1)).getD i10 default)))))
 (o17:q1f b (∀ (x0:Nat),q1h x0 (∀ (x2:Nat),q1l b x0 x2 (x2 + 1<=b.lines.length))))
 (o18:q1f b (∀ (x0:Nat),q1h x0 (∀ (x2:Nat),q1l b x0 x2 (b.lines.length - (x2 + 1) < b.lines.length - x2))))
 (o19:q1f b (∀ (x0:Nat),q1h x0 (∀ (x2:Nat),q1m b x2 (inI ((x0:Int) + 1)))))
 (o20:q1f b (∀ (x0:Nat),q1h x0 (∀ (x2:Nat),q1m b x2 ((x0:Int) + 1=(↑(x0 + 1):Int)))))
 (o21:q1f b (∀ (x0:Nat),q1h x0 (∀ (x2:Nat),q1m b x2 ((stdTo b x0 x2).length=(stdTo b (x0 + 1) 0).length))))
 (o22:q1f b (∀ (x0:Nat),q1h x0 (∀ (x2:Nat),q1m b x2 (∀ (i12:Nat),i12 < (stdTo b x0 x2).length->cSday ((stdTo b x0 x2).getD i12 default)=cSday ((stdTo b (x0 + 1) 0).getD i12 default)))))
 (o23:q1f b (∀ (x0:Nat),q1h x0 (∀ (x2:Nat),q1m b x2 (x0 + 1<=14))))
 (o24:q1f b (∀ (x0:Nat),q1h x0 (∀ (x2:Nat),q1m b x2 (14 - (x0 + 1) < 14 - x0))))
 (o25:q1f b (∀ (x0:Nat),q1g x0 (decide ((x0:Int)<=13)=false->(stdTo b x0 0).length=(stds b).length)))
 (o26:q1f b (∀ (x0:Nat),q1g x0 (decide ((x0:Int)<=13)=false -> ∀ (i14:Nat),i14 < (stds b).length->cSday ((stdTo b x0 0).getD i14 default)=cSday ((stds b).getD i14 default)))) :
  Triple Tryz.prog 26 (s26 b):=by
 refine triple_of Tryz.func26 rfl Tryz.call26 T0_ok _ rfl rfl rfl rfl (Nat.le_of_ble_eq_true (by kernel_rfl)) (fun _ _ _ _ h=>h) ?_
 intro hpre C hC _ hE
 obtain ⟨P,w0,E0,av,hA,ro,df⟩:=C
 obtain ⟨rfl,rfl,rfl⟩:=hC
 refine swp_seq ?_
 refine zR [1] [0] (Ak 2 tv) ?_
 refine swp_seq ?_
 refine zR [1,3] [0] (Ak 1 tv) ?_
 refine swp_seq ?_
 refine swp_seq ?_
 refine zR [1,3,4] [0] (Ak 1 tv) ?_
 refine swp_block ?_
 refine zL (Hint.ann (h26a b) [(1,AV.ptr 0 [])] [(0,OB.cells 26 (cBk b))] 10032) (zE hE [] [(0,.same 0),(5000,.nil)] [] [0] (An (An (An (zr (some (Src.same 0))) (zr nilP)) (An (zr (some Src.nil)) (An (An (ci (o0 hpre)) (zr nilN)) tv))) (An (An (An (zr (OB.cells 26 (cBk b))) (zr true)) (An (o1 hpre) tv)) (An (zr true) (zr true))))) (o2 hpre) (fun (x0:Nat) hx0 => ?_)
 refine swp_seq ?_
 refine swp_seq ?_
 refine zR [1,3,4,7] [0,5000] (Ak 2 tv) ?_
 refine zI (decide ((x0:Int)<=13)) (fun y1 => ?_) (fun y1 => ?_)
 ·refine swp_skip ?_
  refine swp_seq ?_
  refine swp_block ?_
  refine swp_seq ?_
  refine zR [1,3,4,5] [0,5000] (Ak 1 tv) ?_
  refine swp_block ?_
  refine zL (Hint.ann (h26b b x0) [(1,AV.ptr 0 []),(4,iv (x0:Int))] [(0,OB.cells 26 (cBk b))] 20056) (zE hE [] [(0,.same 0),(5001,.same 5000)] [4] [0] (An (An (An (zr (some (Src.same 0))) (zr nilP)) (An (An (zr (iv (x0:Int))) (zr true)) (An (zr (some (Src.same 5000))) (An (An (ci (o3 hpre x0 hx0 y1)) (zr nilN)) tv)))) (An (An (An (zr (OB.cells 26 (cBk b))) (zr true)) (An (An (zr 54) (An (zr 2) (An (zr (stdTo b x0 0).length) (fun (i3:Nat)=>(fun (y4:i3 < (stdTo b x0 0).length)=>(zr (cSday ((stdTo b x0 0).getD i3 default)))))))) tv)) (An (zr true) (zr true))))) (o4 hpre x0 hx0 y1) (fun (x2:Nat) hx2 => ?_)
  refine swp_seq ?_
  refine swp_seq ?_
  refine zR [1,4,3,5,14] [0,5001] (Ak 5 tv) ?_
  refine zI (decide ((x2:Int) < (↑(b.lines.length):Int))) (fun y5 => ?_) (fun y5 => ?_)
  ·refine swp_skip ?_
   refine swp_seq ?_
   refine swp_block ?_
   refine swp_seq ?_
   refine zC ([(3,CallSpec.eq (s55 b (x2:Int) (x0:Int)) [true,true,true])]) [1,4,3,5,20] [0,5001] (Ak 3 (An (An (An (zr (AV.agg (cBk b))) (An (zr (iv (x2:Int))) (An (zr (iv (x0:Int))) tv))) (An (t55 (b) ((x2:Int)) ((x0:Int))) (An (o5 hpre x0 hx0 y1 x2 hx2 y5) (Ak 1 (fun (i6:Env)=>tv))))) tv)) ?_
   refine zI (stoodB b (x2:Int) (x0:Int)) (fun y7 => ?_) (fun y7 => ?_)
   ·refine zR [1,4,3,5] [0,20168] (Ak 5 (An (o6 hpre x0 hx0 y1 x2 hx2 y5 y7) (Ak 1 tv))) ?_
    refine zR [1,4,3,5] [0,20168] (Ak 1 (An (o7 hpre x0 hx0 y1 x2 hx2 y5 y7) (Ak 1 tv))) ?_
    exact zn (zE hE [] [(0,.same 0),(5001,.same 20168)] [4] [0] (An (An (An (zr (some (Src.same 0))) (zr nilP)) (An (An (zr (iv (x0:Int))) (zr true)) (An (zr (some (Src.same 20168))) (An (An (ci (o8 hpre x0 hx0 y1 x2 hx2 y5 y7)) (zr nilN)) tv)))) (An (An (An (zr (OB.cells 26 (cBk b))) (zr true)) (An (An (zr 54) (An (zr 2) (An (o9 hpre x0 hx0 y1 x2 hx2 y5 y7) (fun (i8:Nat)=>(fun (y9:i8 < (stdTo b x0 x2).length + 1)=>(o10 hpre x0 hx0 y1 x2 hx2 y5 y7 i8 y9)))))) tv)) (An (zr true) (zr true))))) (o11 hpre x0 hx0 y1 x2 hx2 y5 y7) (o12 hpre x0 hx0 y1 x2 hx2 y5 y7)
   ·refine swp_skip ?_
    refine zR [1,4,3,5] [0,5001] (Ak 1 (An (o13 hpre x0 hx0 y1 x2 hx2 y5 y7) (Ak 1 tv))) ?_
    exact zn (zE hE [] [(0,.same 0),(5001,.same 5001)] [4] [0] (An (An (An (zr (some (Src.same 0))) (zr nilP)) (An (An (zr (iv (x0:Int))) (zr true)) (An (zr (some (Src.same 5001))) (An (An (ci (o14 hpre x0 hx0 y1 x2 hx2 y5 y7)) (zr nilN)) tv)))) (An (An (An (zr (OB.cells 26 (cBk b))) (zr true)) (An (An (zr 54) (An (zr 2) (An (o15 hpre x0 hx0 y1 x2 hx2 y5 y7) (fun (i10:Nat)=>(fun (y11:i10 < (stdTo b x0 x2).length)=>(o16 hpre x0 hx0 y1 x2 hx2 y5 y7 i10 y11)))))) tv)) (An (zr true) (zr true))))) (o17 hpre x0 hx0 y1 x2 hx2 y5 y7) (o18 hpre x0 hx0 y1 x2 hx2 y5 y7)
  ·refine swp_exit ?_
   refine zR [1,4,3] [0,5001] (Ak 1 (An (o19 hpre x0 hx0 y1 x2 hx2 y5) (Ak 1 tv))) ?_
   exact zn (zE hE [] [(0,.same 0),(5000,.same 5001)] [] [0] (An (An (An (zr (some (Src.same 0))) (zr nilP)) (An (zr (some (Src.same 5001))) (An (An (ci (o20 hpre x0 hx0 y1 x2 hx2 y5)) (zr nilN)) tv))) (An (An (An (zr (OB.cells 26 (cBk b))) (zr true)) (An (An (zr 54) (An (zr 2) (An (o21 hpre x0 hx0 y1 x2 hx2 y5) (fun (i12:Nat)=>(fun (y13:i12 < (stdTo b x0 x2).length)=>(o22 hpre x0 hx0 y1 x2 hx2 y5 i12 y13)))))) tv)) (An (zr true) (zr true))))) (o23 hpre x0 hx0 y1 x2 hx2 y5) (o24 hpre x0 hx0 y1 x2 hx2 y5)
 ·refine swp_exit ?_
  refine swp_seq ?_
  refine zR [2] [5000] (Ak 2 tv) ?_
  refine swp_ret ?_
  exact zT [5000] (An (Ak 1 tv) (An (An (zr 2) (An (o25 hpre x0 hx0 y1) (fun (i14:Nat)=>(fun (y15:i14 < (stds b).length)=>(o26 hpre x0 hx0 y1 i14 y15))))) (An (zr true) (An (zr true) (zr true)))))
theorem stdTo_succ (b:Book) (d a:Nat):stdTo b d (a + 1)=stdTo b d a ++ if stoodB b a d then [⟨a,d⟩] else []:=by
 unfold stdTo dayTo
 rw [List.range_succ,List.filterMap_append,List.append_assoc]
 congr 2
 rw [List.filterMap_cons]
 split <;> simp_all
theorem stdTo_next (b:Book) (d:Nat):stdTo b (d + 1) 0=stdTo b d b.lines.length:=by
 unfold stdTo
 rw [List.range_succ,List.flatMap_append]
 show _ ++ _ ++ []=_
 rw [List.append_nil]
 congr 1
 rw [List.flatMap_cons,List.flatMap_nil,List.append_nil]; rfl
theorem stdTo_all (b:Book):stdTo b 14 0=stds b:=by
 unfold stdTo stds
 show _ ++ []=_
 rw [List.append_nil]
theorem stdTo_len {b:Book} (h:b.lines.length<=64):∀ (d a:Nat),(stdTo b d a).length<=d * 64 + a:=by
 intro d
 induction d with
 | zero =>
  intro a
  unfold stdTo dayTo
  show (List.filterMap _ _).length<=_
  have:=List.length_filterMap_le (fun (a:Nat)=>if stoodB b a (0:Nat) then some (⟨a,(0:Nat)⟩:Sday) else none) (List.range a)
  rw [List.length_range] at this
  omega
 | succ d ih =>
  intro a
  induction a with
  | zero=>rw [stdTo_next]; have:=ih b.lines.length; omega
  | succ a ih2 =>
   rw [stdTo_succ,List.length_append]
   have:(if stoodB b a (d + 1:Nat) then [(⟨a,(d + 1:Nat)⟩:Sday)] else []).length<=1:=by split <;> simp
   omega
theorem t26 (b:Book):Triple Tryz.prog 26 (s26 b):=by
  apply w26
  all_goals (try delta q1f q1g q1h q1i q1j q1k q1l q1m)
  all_goals (intro hp; have hp2:=hp; simp only [smallB] at hp2)
  case o1=>rfl
  case o2=>omega
  all_goals (first | rfl | omega | skip)
  all_goals (intro d hd)
  case o26 => intro hl i hi; simp only [decide_eq_false_iff_not] at hl; have : d = 14 := by omega
              subst this; rw [stdTo_all]
  case o25 => intro hl; simp only [decide_eq_false_iff_not] at hl; have : d = 14 := by omega
              subst this; rw [stdTo_all]
  all_goals (intro hl; simp only [decide_eq_true_eq,decide_eq_false_iff_not] at hl)
  all_goals (intro a ha h2; simp only [decide_eq_true_eq,decide_eq_false_iff_not] at h2)
  case o5=>exact ⟨by simp only [big]; omega,by simp only [big]; omega,by simp only [big]; omega⟩
  case o6=>intro _; have:=stdTo_len hp2.1 d a; omega
  case o9=>intro h3; rw [stdTo_succ,if_pos h3,List.length_append]; rfl
  case o10 =>
    intro h3 i hi
    rw [stdTo_succ,if_pos h3,getD_append]
    unfold catF
    by_cases c:i < (stdTo b d a).length
    · rw [if_pos c,if_pos c]
    · rw [if_neg c,if_neg c]
      have:i - (stdTo b d a).length=0:=by omega
      rw [this]; rfl
  case o15=>intro h3; rw [stdTo_succ,h3]; simp
  case o16=>intro h3 i hi; rw [stdTo_succ,h3]; simp
  case o21 => have : a = b.lines.length := by omega
              subst this; rw [stdTo_next]
  case o22 => intro i hi; have : a = b.lines.length := by omega
              subst this; rw [stdTo_next]
  all_goals (first | omega | (intros; simp only [inI]; omega) | (intros; omega))
theorem chk_b {b:Book}:(!decide (checkB b=0)) = !okBook b:=by
 unfold checkB; cases okBook b <;> rfl
theorem small_fitsB {b:Book} (h:smallB b):fitsB b:=by
 simp only [smallB,fitsB,big] at *; omega
theorem w61 (n:Int) :
  Triple Tryz.prog 61 (s61 n):=by
 refine triple_of Tryz.func61 rfl Tryz.call61 T0_ok _ rfl rfl rfl rfl (Nat.le_of_ble_eq_true (by kernel_rfl)) (fun _ _ _ _ h=>h) ?_
 intro _ C hC _ hE
 obtain ⟨P,w0,E0,av,hA,ro,df⟩:=C
 obtain ⟨rfl,rfl,rfl⟩:=hC
 refine swp_seq ?_
 refine zR [0] [] (Ak 1 tv) ?_
 refine swp_seq ?_
 refine zC ([(1,CallSpec.eq (s62 n 0 9) [true,true,true])]) [2] [] (Ak 1 (An (An (An (zr (iv n)) (An (zr (iv 0)) (An (zr (iv 9)) tv))) (An (t62 (n) (0) (9)) (Ak 2 (fun (i0:Env)=>tv)))) (Ak 2 tv))) ?_
 refine swp_ret ?_
 exact zT [] (An (Ak 1 tv) (An (An (zr (bv !within n 0 9)) (zr nilN)) (An (zr true) (An (zr true) (zr true)))))
theorem t61 (n:Int):Triple Tryz.prog 61 (s61 n):=by
 apply w61
theorem span_eq (x y:Span):(decide (x.lo=y.lo) && (decide (x.hi=y.hi) && true))=decide (x=y):=by
 rw [Bool.eq_iff_iff]
 simp only [Bool.and_true,Bool.and_eq_true,decide_eq_true_eq]
 constructor
 ·rintro ⟨h1,h2⟩; cases x; cases y; simp only at h1 h2; subst h1; subst h2; rfl
 ·rintro rfl; exact ⟨rfl,rfl⟩
theorem ctr_eq (x y:Ctr):(decide (x.frm=y.frm) && (decide (x.days=y.days) && (decide (x.room=y.room) && (decide (x.pence=y.pence) && true))))=decide (x=y):=by
 rw [Bool.eq_iff_iff]
 simp only [Bool.and_true,Bool.and_eq_true,decide_eq_true_eq]
 constructor
 ·rintro ⟨h1,h2,h3,h4⟩; cases x; cases y; simp only at h1 h2 h3 h4; subst h1; subst h2; subst h3; subst h4; rfl
 ·rintro rfl; exact ⟨rfl,rfl,rfl,rfl⟩
theorem take_same {α:Type} (d:α) {l m:List α} {x:Nat} (h1:x < l.length) (h2:x < m.length) (h:l.take x=m.take x) (e:l.getD x d=m.getD x d):l.take (x + 1)=m.take (x + 1):=by
 rw [take_succ l d h1,take_succ m d h2,h,e]
abbrev q1n (a:Book) (P:Prop):Prop:=fitsB a->P
abbrev q1o (a:Book) (b:Book) (P:Prop):Prop:=q1n a ((bif bif bif bif !decide ((↑(a.lines.length):Int)=(↑(b.lines.length):Int)) then true else !decide ((↑(a.shown.length):Int)=(↑(b.shown.length):Int)) then true else !decide ((↑(a.ctrs.length):Int)=(↑(b.ctrs.length):Int)) then true else !decide (a.rate=b.rate) then true else !decide (a.rep=b.rep))=false->P)
abbrev q1p (a:Book) (b:Book) (x53:Nat) (P:Prop):Prop:=x53<=a.lines.length/\List.take x53 a.lines=List.take x53 b.lines->P
abbrev q1q (a:Book) (b:Book) (x53:Nat) (P:Prop):Prop:=q1p a b x53 (decide ((x53:Int) < (↑(a.lines.length):Int))=true->P)
abbrev q1r (a:Book) (b:Book) (x53:Nat) (P:Prop):Prop:=q1q a b x53 ((!(decide ((lnB a x53).lo=(lnB b x53).lo) && (decide ((lnB a x53).hi=(lnB b x53).hi) && true)))=false->P)
abbrev q1s (a:Book) (b:Book) (x53:Nat) (P:Prop):Prop:=q1p a b x53 (decide ((x53:Int) < (↑(a.lines.length):Int))=false->P)
abbrev q1t (a:Book) (b:Book) (x56:Nat) (P:Prop):Prop:=x56<=a.shown.length/\List.take x56 a.shown=List.take x56 b.shown->P
abbrev q1u (a:Book) (b:Book) (x56:Nat) (P:Prop):Prop:=q1t a b x56 (decide ((x56:Int) < (↑(a.shown.length):Int))=true->P)
abbrev q1v (a:Book) (b:Book) (x56:Nat) (P:Prop):Prop:=q1u a b x56 ((!(decide ((shB a x56).ad=(shB b x56).ad) && (decide ((shB a x56).day=(shB b x56).day) && (decide ((shB a x56).ed=(shB b x56).ed) && true))))=false->P)
abbrev q1w (a:Book) (b:Book) (x56:Nat) (P:Prop):Prop:=q1t a b x56 (decide ((x56:Int) < (↑(a.shown.length):Int))=false->P)
abbrev q1x (a:Book) (b:Book) (x59:Nat) (P:Prop):Prop:=x59<=a.ctrs.length/\List.take x59 a.ctrs=List.take x59 b.ctrs->P
abbrev q1y (a:Book) (b:Book) (x59:Nat) (P:Prop):Prop:=q1x a b x59 (decide ((x59:Int) < (↑(a.ctrs.length):Int))=true->P)
abbrev q1z (a:Book) (b:Book) (x59:Nat) (P:Prop):Prop:=q1y a b x59 ((!(decide ((ctB a x59).frm=(ctB b x59).frm) && (decide ((ctB a x59).days=(ctB b x59).days) && (decide ((ctB a x59).room=(ctB b x59).room) && (decide ((ctB a x59).pence=(ctB b x59).pence) && true)))))=false->P)
theorem w17 (a:Book) (b:Book)
 (o0:q1n a ((!decide ((↑(a.lines.length):Int)=(↑(b.lines.length):Int)))=false->(!!decide ((↑(a.lines.length):Int)=(↑(b.lines.length):Int)))=true))
 (o1:q1n a ((bif !decide ((↑(a.lines.length):Int)=(↑(b.lines.length):Int)) then true else !decide ((↑(a.shown.length):Int)=(↑(b.shown.length):Int)))=false->(!bif !decide ((↑(a.lines.length):Int)=(↑(b.lines.length):Int)) then true else !decide ((↑(a.shown.length):Int)=(↑(b.shown.length):Int)))=true))
 (o2:q1n a ((bif bif !decide ((↑(a.lines.length):Int)=(↑(b.lines.length):Int)) then true else !decide ((↑(a.shown.length):Int)=(↑(b.shown.length):Int)) then true else !decide ((↑(a.ctrs.length):Int)=(↑(b.ctrs.length):Int)))=false->(!bif bif !decide ((↑(a.lines.length):Int)=(↑(b.lines.length):Int)) then true else !decide ((↑(a.shown.length):Int)=(↑(b.shown.length):Int)) then true else !decide ((↑(a.ctrs.length):Int)=(↑(b.ctrs.length):Int)))=true))
 (o3:q1n a ((bif bif bif !decide ((↑(a.lines.length):Int)=(↑(b.lines.length):Int)) then true else !decide ((↑(a.shown.length):Int)=(↑(b.shown.length):Int)) then true else !decide ((↑(a.ctrs.length):Int)=(↑(b.ctrs.length):Int)) then true else !decide (a.rate=b.rate))=false->(!bif bif bif !decide ((↑(a.lines.length):Int)=(↑(b.lines.length):Int)) then true else !decide ((↑(a.shown.length):Int)=(↑(b.shown.length):Int)) then true else !decide ((↑(a.ctrs.length):Int)=(↑(b.ctrs.length):Int)) then true else !decide (a.rate=b.rate))=true))
 (o4:q1n a ((bif bif bif bif !decide ((↑(a.lines.length):Int)=(↑(b.lines.length):Int)) then true else !decide ((↑(a.shown.length):Int)=(↑(b.shown.length):Int)) then true else !decide ((↑(a.ctrs.length):Int)=(↑(b.ctrs.length):Int)) then true else !decide (a.rate=b.rate) then true else !decide (a.rep=b.rep))=true->false=decide (a=b)))
 (o5:q1o a b (0=(↑0:Int)))
 (o6:q1o a b (0<=a.lines.length/\List.take 0 a.lines=List.take 0 b.lines))
 (o7:q1o a b (∀ (x53:Nat),q1q a b x53 (0<=(x53:Int))))
 (o8:q1o a b (∀ (x53:Nat),q1q a b x53 ((x53:Int) < (↑(a.lines.length):Int))))
 (o9:q1o a b (∀ (x53:Nat),q1q a b x53 (0<=(x53:Int))))
 (o10:q1o a b (∀ (x53:Nat),q1q a b x53 ((x53:Int) < (↑(b.lines.length):Int))))
 (o11:q1o a b (∀ (x53:Nat),q1q a b x53 ((!(decide ((lnB a x53).lo=(lnB b x53).lo) && (decide ((lnB a x53).hi=(lnB b x53).hi) && true)))=true->false=decide (a=b))))
 (o12:q1o a b (∀ (x53:Nat),q1r a b x53 (inI ((x53:Int) + 1))))
 (o13:q1o a b (∀ (x53:Nat),q1r a b x53 ((x53:Int) + 1=(↑(x53 + 1):Int))))
 (o14:q1o a b (∀ (x53:Nat),q1r a b x53 (x53 + 1<=a.lines.length/\List.take (x53 + 1) a.lines=List.take (x53 + 1) b.lines)))
 (o15:q1o a b (∀ (x53:Nat),q1r a b x53 (a.lines.length - (x53 + 1) < a.lines.length - x53)))
 (o16:q1o a b (∀ (x53:Nat),q1s a b x53 (0=(↑0:Int))))
 (o17:q1o a b (∀ (x53:Nat),q1s a b x53 (0<=a.shown.length/\List.take 0 a.shown=List.take 0 b.shown)))
 (o18:q1o a b (∀ (x53:Nat),q1s a b x53 (∀ (x56:Nat),q1u a b x56 (0<=(x56:Int)))))
 (o19:q1o a b (∀ (x53:Nat),q1s a b x53 (∀ (x56:Nat),q1u a b x56 ((x56:Int) < (↑(a.shown.length):Int)))))
 (o20:q1o a b (∀ (x53:Nat),q1s a b x53 (∀ (x56:Nat),q1u a b x56 (0<=(x56:Int)))))
 (o21:q1o a b (∀ (x53:Nat),q1s a b x53 (∀ (x56:Nat),q1u a b x56 ((x56:Int) < (↑(b.shown.length):Int)))))
 (o22:q1o a b (∀ (x53:Nat),q1s a b x53 (∀ (x56:Nat),q1u a b x56 ((!(decide ((shB a x56).ad=(shB b x56).ad) && (decide ((shB a x56).day=(shB b x56).day) && (decide ((shB a x56).ed=(shB b x56).ed) && true))))=true->false=decide (a=b)))))
 (o23:q1o a b (∀ (x53:Nat),q1s a b x53 (∀ (x56:Nat),q1v a b x56 (inI ((x56:Int) + 1)))))
 (o24:q1o a b (∀ (x53:Nat),q1s a b x53 (∀ (x56:Nat),q1v a b x56 ((x56:Int) + 1=(↑(x56 + 1):Int)))))
 (o25:q1o a b (∀ (x53:Nat),q1s a b x53 (∀ (x56:Nat),q1v a b x56 (x56 + 1<=a.shown.length/\List.take (x56 + 1) a.shown=List.take (x56 + 1) b.shown))))
 (o26:q1o a b (∀ (x53:Nat),q1s a b x53 (∀ (x56:Nat),q1v a b x56 (a.shown.length - (x56 + 1) < a.shown.length - x56))))
 (o27:q1o a b (∀ (x53:Nat),q1s a b x53 (∀ (x56:Nat),q1w a b x56 (0=(↑0:Int)))))
 (o28:q1o a b (∀ (x53:Nat),q1s a b x53 (∀ (x56:Nat),q1w a b x56 (0<=a.ctrs.length/\List.take 0 a.ctrs=List.take 0 b.ctrs))))
 (o29:q1o a b (∀ (x53:Nat),q1s a b x53 (∀ (x56:Nat),q1w a b x56 (∀ (x59:Nat),q1y a b x59 (0<=(x59:Int))))))
 (o30:q1o a b (∀ (x53:Nat),q1s a b x53 (∀ (x56:Nat),q1w a b x56 (∀ (x59:Nat),q1y a b x59 ((x59:Int) < (↑(a.ctrs.length):Int))))))
 (o31:q1o a b (∀ (x53:Nat),q1s a b x53 (∀ (x56:Nat),q1w a b x56 (∀ (x59:Nat),q1y a b x59 (0<=(x59:Int))))))
 (o32:q1o a b (∀ (x53:Nat),q1s a b x53 (∀ (x56:Nat),q1w a b x56 (∀ (x59:Nat),q1y a b x59 ((x59:Int) < (↑(b.ctrs.length):Int))))))
 (o33:q1o a b (∀ (x53:Nat),q1s a b x53 (∀ (x56:Nat),q1w a b x56 (∀ (x59:Nat),q1y a b x59 ((!(decide ((ctB a x59).frm=(ctB b x59).frm) && (decide ((ctB a x59).days=(ctB b x59).days) && (decide ((ctB a x59).room=(ctB b x59).room) && (decide ((ctB a x59).pence=(ctB b x59).pence) && true)))))=true->false=decide (a=b))))))
 (o34:q1o a b (∀ (x53:Nat),q1s a b x53 (∀ (x56:Nat),q1w a b x56 (∀ (x59:Nat),q1z a b x59 (inI ((x59:Int) + 1))))))
 (o35:q1o a b (∀ (x53:Nat),q1s a b x53 (∀ (x56:Nat),q1w a b x56 (∀ (x59:Nat),q1z a b x59 ((x59:Int) + 1=(↑(x59 + 1):Int))))))
 (o36:q1o a b (∀ (x53:Nat),q1s a b x53 (∀ (x56:Nat),q1w a b x56 (∀ (x59:Nat),q1z a b x59 (x59 + 1<=a.ctrs.length/\List.take (x59 + 1) a.ctrs=List.take (x59 + 1) b.ctrs)))))
 (o37:q1o a b (∀ (x53:Nat),q1s a b x53 (∀ (x56:Nat),q1w a b x56 (∀ (x59:Nat),q1z a b x59 (a.ctrs.length - (x59 + 1) < a.ctrs.length - x59)))))
 (o38:q1o a b (∀ (x53:Nat),q1s a b x53 (∀ (x56:Nat),q1w a b x56 (∀ (x59:Nat),q1x a b x59 (decide ((x59:Int) < (↑(a.ctrs.length):Int))=false->true=decide (a=b)))))) :
  Triple Tryz.prog 17 (s17 a b):=by
 refine triple_of Tryz.func17 rfl Tryz.call17 T0_ok _ rfl rfl rfl rfl (Nat.le_of_ble_eq_true (by kernel_rfl)) (fun _ _ _ _ h=>h) ?_
 intro hpre C hC _ hE
 obtain ⟨P,w0,E0,av,hA,ro,df⟩:=C
 obtain ⟨rfl,rfl,rfl⟩:=hC
 refine swp_seq ?_
 refine zR [2,3] [0,8] (Ak 3 tv) ?_
 refine swp_seq ?_
 refine swp_seq ?_
 refine zR [2,3,46] [0,8] (Ak 8 (An (fun (y0:(!!decide ((↑(a.lines.length):Int)=(↑(b.lines.length):Int)))=true)=>(An (Ak 1 tv) tv)) (An (fun (y1:(!!decide ((↑(a.lines.length):Int)=(↑(b.lines.length):Int)))=true)=>(An (An (fun (y2:(!!decide ((↑(a.lines.length):Int)=(↑(b.lines.length):Int)))=true)=>y1) tv) tv)) (An (fun (y3:(!!decide ((↑(a.lines.length):Int)=(↑(b.lines.length):Int)))=true)=>(An (An (fun (y4:(!!decide ((↑(a.lines.length):Int)=(↑(b.lines.length):Int)))=true)=>y3) tv) tv)) (An (fun (y5:(!!decide ((↑(a.lines.length):Int)=(↑(b.lines.length):Int)))=true)=>(An (Ak 1 tv) tv)) (An (fun (y6:(!!decide ((↑(a.lines.length):Int)=(↑(b.lines.length):Int)))=true)=>(An (An (fun (y7:(!!decide ((↑(a.lines.length):Int)=(↑(b.lines.length):Int)))=true)=>y6) tv) tv)) (An (fun (y8:(!!decide ((↑(a.lines.length):Int)=(↑(b.lines.length):Int)))=true)=>(An (An (fun (y9:(!!decide ((↑(a.lines.length):Int)=(↑(b.lines.length):Int)))=true)=>y8) tv) tv)) (An (fun (y10:(!!decide ((↑(a.lines.length):Int)=(↑(b.lines.length):Int)))=true)=>(An (An (fun (y11:(!!decide ((↑(a.lines.length):Int)=(↑(b.lines.length):Int)))=true)=>y10) (An (fun (y12:(!!decide ((↑(a.lines.length):Int)=(↑(b.lines.length):Int)))=true)=>y10) tv)) tv)) (An (An (fun (y13:(!decide ((↑(a.lines.length):Int)=(↑(b.lines.length):Int)))=true)=>tv) (fun (y14:(!decide ((↑(a.lines.length):Int)=(↑(b.lines.length):Int)))=false)=>(o0 hpre y14))) (Ak 1 (An (fun (y15:(!bif !decide ((↑(a.lines.length):Int)=(↑(b.lines.length):Int)) then true else !decide ((↑(a.shown.length):Int)=(↑(b.shown.length):Int)))=true)=>(An (Ak 1 tv) tv)) (An (fun (y16:(!bif !decide ((↑(a.lines.length):Int)=(↑(b.lines.length):Int)) then true else !decide ((↑(a.shown.length):Int)=(↑(b.shown.length):Int)))=true)=>(An (An (fun (y17:(!bif !decide ((↑(a.lines.length):Int)=(↑(b.lines.length):Int)) then true else !decide ((↑(a.shown.length):Int)=(↑(b.shown.length):Int)))=true)=>y16) tv) tv)) (An (fun (y18:(!bif !decide ((↑(a.lines.length):Int)=(↑(b.lines.length):Int)) then true else !decide ((↑(a.shown.length):Int)=(↑(b.shown.length):Int)))=true)=>(An (An (fun (y19:(!bif !decide ((↑(a.lines.length):Int)=(↑(b.lines.length):Int)) then true else !decide ((↑(a.shown.length):Int)=(↑(b.shown.length):Int)))=true)=>y18) tv) tv)) (An (fun (y20:(!bif !decide ((↑(a.lines.length):Int)=(↑(b.lines.length):Int)) then true else !decide ((↑(a.shown.length):Int)=(↑(b.shown.length):Int)))=true)=>(An (Ak 1 tv) tv)) (An (fun (y21:(!bif !decide ((↑(a.lines.length):Int)=(↑(b.lines.length):Int)) then true else !decide ((↑(a.shown.length):Int)=(↑(b.shown.length):Int)))=true)=>(An (An (fun (y22:(!bif !decide ((↑(a.lines.length):Int)=(↑(b.lines.length):Int)) then true else !decide ((↑(a.shown.length):Int)=(↑(b.shown.length):Int)))=true)=>y21) tv) tv)) (An (fun (y23:(!bif !decide ((↑(a.lines.length):Int)=(↑(b.lines.length):Int)) then true else !decide ((↑(a.shown.length):Int)=(↑(b.shown.length):Int)))=true)=>(An (An (fun (y24:(!bif !decide ((↑(a.lines.length):Int)=(↑(b.lines.length):Int)) then true else !decide ((↑(a.shown.length):Int)=(↑(b.shown.length):Int)))=true)=>y23) tv) tv)) (An (fun (y25:(!bif !decide ((↑(a.lines.length):Int)=(↑(b.lines.length):Int)) then true else !decide ((↑(a.shown.length):Int)=(↑(b.shown.length):Int)))=true)=>(An (An (fun (y26:(!bif !decide ((↑(a.lines.length):Int)=(↑(b.lines.length):Int)) then true else !decide ((↑(a.shown.length):Int)=(↑(b.shown.length):Int)))=true)=>y25) (An (fun (y27:(!bif !decide ((↑(a.lines.length):Int)=(↑(b.lines.length):Int)) then true else !decide ((↑(a.shown.length):Int)=(↑(b.shown.length):Int)))=true)=>y25) tv)) tv)) (An (An (fun (y28:(bif !decide ((↑(a.lines.length):Int)=(↑(b.lines.length):Int)) then true else !decide ((↑(a.shown.length):Int)=(↑(b.shown.length):Int)))=true)=>tv) (fun (y29:(bif !decide ((↑(a.lines.length):Int)=(↑(b.lines.length):Int)) then true else !decide ((↑(a.shown.length):Int)=(↑(b.shown.length):Int)))=false)=>(o1 hpre y29))) (Ak 1 (An (fun (y30:(!bif bif !decide ((↑(a.lines.length):Int)=(↑(b.lines.length):Int)) then true else !decide ((↑(a.shown.length):Int)=(↑(b.shown.length):Int)) then true else !decide ((↑(a.ctrs.length):Int)=(↑(b.ctrs.length):Int)))=true)=>(An (Ak 1 tv) tv)) (An (fun (y31:(!bif bif !decide ((↑(a.lines.length):Int)=(↑(b.lines.length):Int)) then true else !decide ((↑(a.shown.length):Int)=(↑(b.shown.length):Int)) then true else !decide ((↑(a.ctrs.length):Int)=(↑(b.ctrs.length):Int)))=true)=>(An (An (fun (y32:(!bif bif !decide ((↑(a.lines.length):Int)=(↑(b.lines.length):Int)) then true else !decide ((↑(a.shown.length):Int)=(↑(b.shown.length):Int)) then true else !decide ((↑(a.ctrs.length):Int)=(↑(b.ctrs.length):Int)))=true)=>y31) tv) tv)) (An (fun (y33:(!bif bif !decide ((↑(a.lines.length):Int)=(↑(b.lines.length):Int)) then true else !decide ((↑(a.shown.length):Int)=(↑(b.shown.length):Int)) then true else !decide ((↑(a.ctrs.length):Int)=(↑(b.ctrs.length):Int)))=true)=>(An (Ak 1 tv) tv)) (An (fun (y34:(!bif bif !decide ((↑(a.lines.length):Int)=(↑(b.lines.length):Int)) then true else !decide ((↑(a.shown.length):Int)=(↑(b.shown.length):Int)) then true else !decide ((↑(a.ctrs.length):Int)=(↑(b.ctrs.length):Int)))=true)=>(An (An (fun (y35:(!bif bif !decide ((↑(a.lines.length):Int)=(↑(b.lines.length):Int)) then true else !decide ((↑(a.shown.length):Int)=(↑(b.shown.length):Int)) then true else !decide ((↑(a.ctrs.length):Int)=(↑(b.ctrs.length):Int)))=true)=>y34) tv) tv)) (An (fun (y36:(!bif bif !decide ((↑(a.lines.length):Int)=(↑(b.lines.length):Int)) then true else !decide ((↑(a.shown.length):Int)=(↑(b.shown.length):Int)) then true else !decide ((↑(a.ctrs.length):Int)=(↑(b.ctrs.length):Int)))=true)=>(An (An (fun (y37:(!bif bif !decide ((↑(a.lines.length):Int)=(↑(b.lines.length):Int)) then true else !decide ((↑(a.shown.length):Int)=(↑(b.shown.length):Int)) then true else !decide ((↑(a.ctrs.length):Int)=(↑(b.ctrs.length):Int)))=true)=>y36) (An (fun (y38:(!bif bif !decide ((↑(a.lines.length):Int)=(↑(b.lines.length):Int)) then true else !decide ((↑(a.shown.length):Int)=(↑(b.shown.length):Int)) then true else !decide ((↑(a.ctrs.length):Int)=(↑(b.ctrs.length):Int)))=true)=>y36) tv)) tv)) (An (An (fun (y39:(bif bif !decide ((↑(a.lines.length):Int)=(↑(b.lines.length):Int)) then true else !decide ((↑(a.shown.length):Int)=(↑(b.shown.length):Int)) then true else !decide ((↑(a.ctrs.length):Int)=(↑(b.ctrs.length):Int)))=true)=>tv) (fun (y40:(bif bif !decide ((↑(a.lines.length):Int)=(↑(b.lines.length):Int)) then true else !decide ((↑(a.shown.length):Int)=(↑(b.shown.length):Int)) then true else !decide ((↑(a.ctrs.length):Int)=(↑(b.ctrs.length):Int)))=false)=>(o2 hpre y40))) (Ak 1 (An (fun (y41:(!bif bif bif !decide ((↑(a.lines.length):Int)=(↑(b.lines.length):Int)) then true else !decide ((↑(a.shown.length):Int)=(↑(b.shown.length):Int)) then true else !decide ((↑(a.ctrs.length):Int)=(↑(b.ctrs.length):Int)) then true else !decide (a.rate=b.rate))=true)=>(An (Ak 1 tv) tv)) (An (fun (y42:(!bif bif bif !decide ((↑(a.lines.length):Int)=(↑(b.lines.length):Int)) then true else !decide ((↑(a.shown.length):Int)=(↑(b.shown.length):Int)) then true else !decide ((↑(a.ctrs.length):Int)=(↑(b.ctrs.length):Int)) then true else !decide (a.rate=b.rate))=true)=>(An (An (fun (y43:(!bif bif bif !decide ((↑(a.lines.length):Int)=(↑(b.lines.length):Int)) then true else !decide ((↑(a.shown.length):Int)=(↑(b.shown.length):Int)) then true else !decide ((↑(a.ctrs.length):Int)=(↑(b.ctrs.length):Int)) then true else !decide (a.rate=b.rate))=true)=>y42) tv) tv)) (An (fun (y44:(!bif bif bif !decide ((↑(a.lines.length):Int)=(↑(b.lines.length):Int)) then true else !decide ((↑(a.shown.length):Int)=(↑(b.shown.length):Int)) then true else !decide ((↑(a.ctrs.length):Int)=(↑(b.ctrs.length):Int)) then true else !decide (a.rate=b.rate))=true)=>(An (Ak 1 tv) tv)) (An (fun (y45:(!bif bif bif !decide ((↑(a.lines.length):Int)=(↑(b.lines.length):Int)) then true else !decide ((↑(a.shown.length):Int)=(↑(b.shown.length):Int)) then true else !decide ((↑(a.ctrs.length):Int)=(↑(b.ctrs.length):Int)) then true else !decide (a.rate=b.rate))=true)=>(An (An (fun (y46:(!bif bif bif !decide ((↑(a.lines.length):Int)=(↑(b.lines.length):Int)) then true else !decide ((↑(a.shown.length):Int)=(↑(b.shown.length):Int)) then true else !decide ((↑(a.ctrs.length):Int)=(↑(b.ctrs.length):Int)) then true else !decide (a.rate=b.rate))=true)=>y45) tv) tv)) (An (fun (y47:(!bif bif bif !decide ((↑(a.lines.length):Int)=(↑(b.lines.length):Int)) then true else !decide ((↑(a.shown.length):Int)=(↑(b.shown.length):Int)) then true else !decide ((↑(a.ctrs.length):Int)=(↑(b.ctrs.length):Int)) then true else !decide (a.rate=b.rate))=true)=>(An (An (fun (y48:(!bif bif bif !decide ((↑(a.lines.length):Int)=(↑(b.lines.length):Int)) then true else !decide ((↑(a.shown.length):Int)=(↑(b.shown.length):Int)) then true else !decide ((↑(a.ctrs.length):Int)=(↑(b.ctrs.length):Int)) then true else !decide (a.rate=b.rate))=true)=>y47) (An (fun (y49:(!bif bif bif !decide ((↑(a.lines.length):Int)=(↑(b.lines.length):Int)) then true else !decide ((↑(a.shown.length):Int)=(↑(b.shown.length):Int)) then true else !decide ((↑(a.ctrs.length):Int)=(↑(b.ctrs.length):Int)) then true else !decide (a.rate=b.rate))=true)=>y47) tv)) tv)) (An (An (fun (y50:(bif bif bif !decide ((↑(a.lines.length):Int)=(↑(b.lines.length):Int)) then true else !decide ((↑(a.shown.length):Int)=(↑(b.shown.length):Int)) then true else !decide ((↑(a.ctrs.length):Int)=(↑(b.ctrs.length):Int)) then true else !decide (a.rate=b.rate))=true)=>tv) (fun (y51:(bif bif bif !decide ((↑(a.lines.length):Int)=(↑(b.lines.length):Int)) then true else !decide ((↑(a.shown.length):Int)=(↑(b.shown.length):Int)) then true else !decide ((↑(a.ctrs.length):Int)=(↑(b.ctrs.length):Int)) then true else !decide (a.rate=b.rate))=false)=>(o3 hpre y51))) tv)))))))))))))))))))))))))))))))) ?_
 refine zI (bif bif bif bif !decide ((↑(a.lines.length):Int)=(↑(b.lines.length):Int)) then true else !decide ((↑(a.shown.length):Int)=(↑(b.shown.length):Int)) then true else !decide ((↑(a.ctrs.length):Int)=(↑(b.ctrs.length):Int)) then true else !decide (a.rate=b.rate) then true else !decide (a.rep=b.rep)) (fun y52 => ?_) (fun y52 => ?_)
 ·refine swp_seq ?_
  refine zR [4] [] (Ak 1 tv) ?_
  refine swp_ret ?_
  exact zT [] (An (Ak 1 tv) (An (An (cb (o4 hpre y52)) (zr nilN)) (An (zr true) (An (zr true) (zr true)))))
 ·refine swp_skip ?_
  refine swp_seq ?_
  refine swp_seq ?_
  refine zR [2,3,5] [0,8] (Ak 1 tv) ?_
  refine swp_block ?_
  refine zL (Hint.ann (h17a a b) [(2,AV.ptr 0 []),(3,AV.ptr 8 [])] [(0,OB.cells 26 (cBk a)),(8,OB.cells 26 (cBk b))] 10344) (zE hE [] [(0,.same 0),(8,.same 8)] [] [0,8] (An (An (An (zr (some (Src.same 0))) (zr nilP)) (An (An (zr (some (Src.same 8))) (zr nilP)) (An (An (ci (o5 hpre y52)) (zr nilN)) tv))) (An (An (An (zr (OB.cells 26 (cBk a))) (zr true)) (An (An (zr (OB.cells 26 (cBk b))) (zr true)) tv)) (An (zr true) (zr true))))) (o6 hpre y52) (fun (x53:Nat) hx53 => ?_)
  refine swp_seq ?_
  refine swp_seq ?_
  refine zR [2,3,5,51] [0,8] (Ak 5 tv) ?_
  refine zI (decide ((x53:Int) < (↑(a.lines.length):Int))) (fun y54 => ?_) (fun y54 => ?_)
  ·refine swp_skip ?_
   refine swp_seq ?_
   refine swp_block ?_
   refine swp_seq ?_
   refine zR [2,3,5,64] [0,8] (Ak 3 (An (An (o7 hpre y52 x53 hx53 y54) (o8 hpre y52 x53 hx53 y54)) (Ak 4 (An (An (o9 hpre y52 x53 hx53 y54) (o10 hpre y52 x53 hx53 y54)) (Ak 2 tv))))) ?_
   refine zI (!(decide ((lnB a x53).lo=(lnB b x53).lo) && (decide ((lnB a x53).hi=(lnB b x53).hi) && true))) (fun y55 => ?_) (fun y55 => ?_)
   ·refine swp_seq ?_
    refine zR [4] [] (Ak 1 tv) ?_
    refine swp_ret ?_
    exact zT [] (An (Ak 1 tv) (An (An (cb (o11 hpre y52 x53 hx53 y54 y55)) (zr nilN)) (An (zr true) (An (zr true) (zr true)))))
   ·refine swp_skip ?_
    refine zR [2,3,5] [0,8] (Ak 1 (An (o12 hpre y52 x53 hx53 y54 y55) (Ak 1 tv))) ?_
    exact zn (zE hE [] [(0,.same 0),(8,.same 8)] [] [0,8] (An (An (An (zr (some (Src.same 0))) (zr nilP)) (An (An (zr (some (Src.same 8))) (zr nilP)) (An (An (ci (o13 hpre y52 x53 hx53 y54 y55)) (zr nilN)) tv))) (An (An (An (zr (OB.cells 26 (cBk a))) (zr true)) (An (An (zr (OB.cells 26 (cBk b))) (zr true)) tv)) (An (zr true) (zr true))))) (o14 hpre y52 x53 hx53 y54 y55) (o15 hpre y52 x53 hx53 y54 y55)
  ·refine swp_exit ?_
   refine swp_seq ?_
   refine swp_seq ?_
   refine zR [2,3,6] [0,8] (Ak 1 tv) ?_
   refine swp_block ?_
   refine zL (Hint.ann (h17b a b) [(2,AV.ptr 0 []),(3,AV.ptr 8 [])] [(0,OB.cells 26 (cBk a)),(8,OB.cells 26 (cBk b))] 20392) (zE hE [] [(0,.same 0),(8,.same 8)] [] [0,8] (An (An (An (zr (some (Src.same 0))) (zr nilP)) (An (An (zr (some (Src.same 8))) (zr nilP)) (An (An (ci (o16 hpre y52 x53 hx53 y54)) (zr nilN)) tv))) (An (An (An (zr (OB.cells 26 (cBk a))) (zr true)) (An (An (zr (OB.cells 26 (cBk b))) (zr true)) tv)) (An (zr true) (zr true))))) (o17 hpre y52 x53 hx53 y54) (fun (x56:Nat) hx56 => ?_)
   refine swp_seq ?_
   refine swp_seq ?_
   refine zR [2,3,6,69] [0,8] (Ak 5 tv) ?_
   refine zI (decide ((x56:Int) < (↑(a.shown.length):Int))) (fun y57 => ?_) (fun y57 => ?_)
   ·refine swp_skip ?_
    refine swp_seq ?_
    refine swp_block ?_
    refine swp_seq ?_
    refine zR [2,3,6,82] [0,8] (Ak 3 (An (An (o18 hpre y52 x53 hx53 y54 x56 hx56 y57) (o19 hpre y52 x53 hx53 y54 x56 hx56 y57)) (Ak 4 (An (An (o20 hpre y52 x53 hx53 y54 x56 hx56 y57) (o21 hpre y52 x53 hx53 y54 x56 hx56 y57)) (Ak 2 tv))))) ?_
    refine zI (!(decide ((shB a x56).ad=(shB b x56).ad) && (decide ((shB a x56).day=(shB b x56).day) && (decide ((shB a x56).ed=(shB b x56).ed) && true)))) (fun y58 => ?_) (fun y58 => ?_)
    ·refine swp_seq ?_
     refine zR [4] [] (Ak 1 tv) ?_
     refine swp_ret ?_
     exact zT [] (An (Ak 1 tv) (An (An (cb (o22 hpre y52 x53 hx53 y54 x56 hx56 y57 y58)) (zr nilN)) (An (zr true) (An (zr true) (zr true)))))
    ·refine swp_skip ?_
     refine zR [2,3,6] [0,8] (Ak 1 (An (o23 hpre y52 x53 hx53 y54 x56 hx56 y57 y58) (Ak 1 tv))) ?_
     exact zn (zE hE [] [(0,.same 0),(8,.same 8)] [] [0,8] (An (An (An (zr (some (Src.same 0))) (zr nilP)) (An (An (zr (some (Src.same 8))) (zr nilP)) (An (An (ci (o24 hpre y52 x53 hx53 y54 x56 hx56 y57 y58)) (zr nilN)) tv))) (An (An (An (zr (OB.cells 26 (cBk a))) (zr true)) (An (An (zr (OB.cells 26 (cBk b))) (zr true)) tv)) (An (zr true) (zr true))))) (o25 hpre y52 x53 hx53 y54 x56 hx56 y57 y58) (o26 hpre y52 x53 hx53 y54 x56 hx56 y57 y58)
   ·refine swp_exit ?_
    refine swp_seq ?_
    refine swp_seq ?_
    refine zR [2,3,7] [0,8] (Ak 1 tv) ?_
    refine swp_block ?_
    refine zL (Hint.ann (h17c a b) [(2,AV.ptr 0 []),(3,AV.ptr 8 [])] [(0,OB.cells 26 (cBk a)),(8,OB.cells 26 (cBk b))] 30440) (zE hE [] [(0,.same 0),(8,.same 8)] [] [0,8] (An (An (An (zr (some (Src.same 0))) (zr nilP)) (An (An (zr (some (Src.same 8))) (zr nilP)) (An (An (ci (o27 hpre y52 x53 hx53 y54 x56 hx56 y57)) (zr nilN)) tv))) (An (An (An (zr (OB.cells 26 (cBk a))) (zr true)) (An (An (zr (OB.cells 26 (cBk b))) (zr true)) tv)) (An (zr true) (zr true))))) (o28 hpre y52 x53 hx53 y54 x56 hx56 y57) (fun (x59:Nat) hx59 => ?_)
    refine swp_seq ?_
    refine swp_seq ?_
    refine zR [2,3,7,87] [0,8] (Ak 5 tv) ?_
    refine zI (decide ((x59:Int) < (↑(a.ctrs.length):Int))) (fun y60 => ?_) (fun y60 => ?_)
    ·refine swp_skip ?_
     refine swp_seq ?_
     refine swp_block ?_
     refine swp_seq ?_
     refine zR [2,3,7,100] [0,8] (Ak 3 (An (An (o29 hpre y52 x53 hx53 y54 x56 hx56 y57 x59 hx59 y60) (o30 hpre y52 x53 hx53 y54 x56 hx56 y57 x59 hx59 y60)) (Ak 4 (An (An (o31 hpre y52 x53 hx53 y54 x56 hx56 y57 x59 hx59 y60) (o32 hpre y52 x53 hx53 y54 x56 hx56 y57 x59 hx59 y60)) (Ak 2 tv))))) ?_
     refine zI (!(decide ((ctB a x59).frm=(ctB b x59).frm) && (decide ((ctB a x59).days=(ctB b x59).days) && (decide ((ctB a x59).room=(ctB b x59).room) && (decide ((ctB a x59).pence=(ctB b x59).pence) && true))))) (fun y61 => ?_) (fun y61 => ?_)
     ·refine swp_seq ?_
      refine zR [4] [] (Ak 1 tv) ?_
      refine swp_ret ?_
      exact zT [] (An (Ak 1 tv) (An (An (cb (o33 hpre y52 x53 hx53 y54 x56 hx56 y57 x59 hx59 y60 y61)) (zr nilN)) (An (zr true) (An (zr true) (zr true)))))
     ·refine swp_skip ?_
      refine zR [2,3,7] [0,8] (Ak 1 (An (o34 hpre y52 x53 hx53 y54 x56 hx56 y57 x59 hx59 y60 y61) (Ak 1 tv))) ?_
      exact zn (zE hE [] [(0,.same 0),(8,.same 8)] [] [0,8] (An (An (An (zr (some (Src.same 0))) (zr nilP)) (An (An (zr (some (Src.same 8))) (zr nilP)) (An (An (ci (o35 hpre y52 x53 hx53 y54 x56 hx56 y57 x59 hx59 y60 y61)) (zr nilN)) tv))) (An (An (An (zr (OB.cells 26 (cBk a))) (zr true)) (An (An (zr (OB.cells 26 (cBk b))) (zr true)) tv)) (An (zr true) (zr true))))) (o36 hpre y52 x53 hx53 y54 x56 hx56 y57 x59 hx59 y60 y61) (o37 hpre y52 x53 hx53 y54 x56 hx56 y57 x59 hx59 y60 y61)
    ·refine swp_exit ?_
     refine swp_seq ?_
     refine zR [4] [] (Ak 1 tv) ?_
     refine swp_ret ?_
     exact zT [] (An (Ak 1 tv) (An (An (cb (o38 hpre y52 x53 hx53 y54 x56 hx56 y57 x59 hx59 y60)) (zr nilN)) (An (zr true) (An (zr true) (zr true)))))
theorem same_head {a b:Book} (h:(bif bif bif bif !decide ((a.lines.length:Int)=b.lines.length) then true else !decide ((a.shown.length:Int)=b.shown.length) then true else !decide ((a.ctrs.length:Int)=b.ctrs.length) then true else !decide (a.rate=b.rate) then true else !decide (a.rep=b.rep))=false) :
  a.lines.length=b.lines.length/\a.shown.length=b.shown.length/\a.ctrs.length=b.ctrs.length/\a.rate=b.rate/\a.rep=b.rep:=by
 simp only [Bool.cond_true_left,Bool.or_eq_false_iff,Bool.not_eq_false',decide_eq_true_eq] at h
 exact ⟨by omega,by omega,by omega,h.1.2,h.2⟩
theorem t17 (a b:Book):Triple Tryz.prog 17 (s17 a b):=by
 apply w17
 all_goals (try delta q1n q1o q1p q1q q1r q1s q1t q1u q1v q1w q1x q1y q1z)
 case o4=>intros; symm; rw [decide_eq_false_iff_not]; rintro rfl; simp_all
 case o11=>intros; symm; rw [decide_eq_false_iff_not]; rintro rfl; simp_all
 case o22=>intros; symm; rw [decide_eq_false_iff_not]; rintro rfl; simp_all
 case o33=>intros; symm; rw [decide_eq_false_iff_not]; rintro rfl; simp_all
 case o0 | o1 | o2 | o3=>all_goals (intro hp h; rw [h]; rfl)
 all_goals (intro hp h; obtain ⟨q1,q2,q3,q4,q5⟩:=same_head h)
 case o5=>rfl
 case o6=>exact ⟨Nat.zero_le _,rfl⟩
 all_goals (intro x hx hl; simp only [decide_eq_true_eq,decide_eq_false_iff_not] at hl)
 case o14=>intro h2; rw [span_eq] at h2; simp only [Bool.not_eq_false',decide_eq_true_eq] at h2; exact ⟨by omega,take_same default (by omega) (by omega) hx.2 h2⟩
 case o17=>exact ⟨Nat.zero_le _,rfl⟩
 all_goals (try (first | omega | rfl | (intro _; simp only [fitsB,big,inI] at *; omega) | (intro _; omega)))
 all_goals (intro y hy hl2; simp only [decide_eq_true_eq,decide_eq_false_iff_not] at hl2)
 case o25=>intro h2; rw [shn_eq] at h2; simp only [Bool.not_eq_false',decide_eq_true_eq] at h2; exact ⟨by omega,take_same default (by omega) (by omega) hy.2 h2.symm⟩
 case o28=>exact ⟨Nat.zero_le _,rfl⟩
 all_goals (try (first | omega | rfl | (intro _; simp only [fitsB,big,inI] at *; omega) | (intro _; omega)))
 all_goals (intro z hz hl3; simp only [decide_eq_true_eq,decide_eq_false_iff_not] at hl3)
 case o36=>intro h2; rw [ctr_eq] at h2; simp only [Bool.not_eq_false',decide_eq_true_eq] at h2; exact ⟨by omega,take_same default (by omega) (by omega) hz.2 h2⟩
 case o38 =>
  symm
  rw [decide_eq_true_eq]
  have h1:=hx.2; have h2:=hy.2; have h3:=hz.2
  rw [List.take_of_length_le (by omega),List.take_of_length_le (by omega)] at h1 h2 h3
  cases a; cases b
  simp only at *
  subst h1; subst h2; subst h3; subst q4; subst q5; rfl
 all_goals (first | omega | rfl | (intro _; simp only [fitsB,big,inI] at *; omega) | (intro _; omega))
end Go.Ab
namespace Go.Sh
open Go.Ab
variable {b:Book} {ls:List Int}
def slotB (b:Book) (s:Sday) (y:Int):Bool:=decide (y = -1) || (isCt b y && inWin (ctB b y.toNat) s.day)
def lnAt (ls:List Int) (s:Sday):Int:=ls.getD s.ad.toNat 0
def sumAt (b:Book) (ls l:List Int) (c:Int):Nat->Int
 | 0=>0
 | i + 1=>if l.getD i 0=c then sumAt b ls l c i + lnAt ls (sdA b i) else sumAt b ls l c i
def sglAt (b:Book) (ls l:List Int):Nat->Int
 | 0=>0
 | i + 1=>if l.getD i 0 = -1 then sglAt b ls l i + singleP b ls (sdA b i) else sglAt b ls l i
def penAt (b:Book) (l:List Int):Nat->Int
 | 0=>0
 | c + 1=>if isIn l c then penAt b l c + (ctB b c).pence else penAt b l c
def isBillB (b:Book) (ls l:List Int):Bool:=decide (l.length=(stds b).length) && ((List.range (stds b).length).all (fun i=>slotB b (sdA b i) (l.getD i 0)) && (List.range b.ctrs.length).all fun c=>decide (sumAt b ls l c (stds b).length<=(ctB b c).room))
def costB (b:Book) (ls l:List Int):Int:=sglAt b ls l (stds b).length + penAt b l b.ctrs.length
def listsB (b:Book):Nat->List Int->List (List Int)
 | 0,l=>[l]
 | m + 1,l=>(bysB b).flatMap fun y=>listsB b m (l ++ [y])
def pOK (b:Book) (ls l:List Int):Prop:=(∀ i,i < l.length->slotB b (sdA b i) (l.getD i 0)=true) /\ ∀ c,c < b.ctrs.length->sumAt b ls l c l.length<=(ctB b c).room
instance (b:Book) (ls l:List Int):Decidable (pOK b ls l):=by unfold pOK; infer_instance
def deskOf (b:Book) (ls l:List Int):Desk:=⟨fun c=>(ctB b c).room - sumAt b ls l c l.length,fun c=>l.count (c:Int),sglAt b ls l l.length + penAt b l b.ctrs.length⟩
theorem isIn_iff8 {l:List Int} {p:Int}:isIn l p=true ↔ p ∈ l:=by
 unfold isIn
 rw [List.any_eq_true]
 constructor
 ·rintro ⟨x,hx,h⟩; rw [decide_eq_true_eq] at h; rw [← h]; exact hx
 ·intro h; exact ⟨p,h,by simp⟩
theorem snoc_pre (l:List Int) (y:Int) {i:Nat} (h:i < l.length):(l ++ [y]).getD i 0=l.getD i 0:=by rw [getD_append,if_pos h]
theorem snoc_last (l:List Int) (y:Int):(l ++ [y]).getD l.length 0=y:=by rw [getD_append,if_neg (Nat.lt_irrefl _),Nat.sub_self]; rfl
theorem sum_pre (l:List Int) (y c:Int):∀ {n:Nat},n<=l.length->sumAt b ls (l ++ [y]) c n=sumAt b ls l c n:=by
 intro n
 induction n with
 | zero=>intro _; rfl
 | succ n ih =>
  intro h
  rw [sumAt,sumAt,ih (by omega),snoc_pre l y (by omega)]
theorem sum_snoc (l:List Int) (y c:Int):sumAt b ls (l ++ [y]) c (l ++ [y]).length=if y=c then sumAt b ls l c l.length + lnAt ls (sdA b l.length) else sumAt b ls l c l.length:=by
 rw [List.length_append,List.length_singleton,sumAt,sum_pre l y c (Nat.le_refl _),snoc_last]
theorem sgl_pre (l:List Int) (y:Int):∀ {n:Nat},n<=l.length->sglAt b ls (l ++ [y]) n=sglAt b ls l n:=by
 intro n
 induction n with
 | zero=>intro _; rfl
 | succ n ih =>
  intro h
  rw [sglAt,sglAt,ih (by omega),snoc_pre l y (by omega)]
theorem sgl_snoc (l:List Int) (y:Int):sglAt b ls (l ++ [y]) (l ++ [y]).length=if y = -1 then sglAt b ls l l.length + singleP b ls (sdA b l.length) else sglAt b ls l l.length:=by
 rw [List.length_append,List.length_singleton,sglAt,sgl_pre l y (Nat.le_refl _),snoc_last]
theorem pen_snoc (l:List Int) (y:Int):∀ n:Nat,penAt b (l ++ [y]) n=penAt b l n + (if (0<=y/\y < n)/\y ∉ l then (ctB b y.toNat).pence else 0):=by
 intro n
 induction n with
 | zero=>rw [penAt,penAt,if_neg (by omega)]; rfl
 | succ n ih =>
  rw [penAt,penAt,ih]
  by_cases hy:y=(n:Int)
  ·subst hy
   have h1:isIn (l ++ [(n:Int)]) n=true:=isIn_iff8.2 (by simp)
   rw [h1,if_pos rfl,if_neg (by omega)]
   by_cases hm:(n:Int) ∈ l
   ·rw [isIn_iff8.2 hm,if_pos rfl,if_neg (by simp [hm])]; omega
   ·have h2:isIn l n=false:=by cases e:isIn l n with | false=>rfl | true=>exact absurd (isIn_iff8.1 e) hm
    rw [h2,if_neg (by simp),if_pos ⟨by omega,hm⟩,Int.toNat_natCast]; omega
  ·have h1:isIn (l ++ [y]) n=isIn l n:=by
    rw [Bool.eq_iff_iff,isIn_iff8,isIn_iff8]
    simp only [List.mem_append,List.mem_singleton]
    constructor
    ·rintro (h | h)
     ·exact h
     ·exact absurd h.symm hy
    ·exact Or.inl
   have h2:((0<=y/\y < ((n + 1:Nat):Int))/\y ∉ l) ↔ ((0<=y/\y < (n:Int))/\y ∉ l):=by
    constructor
    ·rintro ⟨h,k⟩; exact ⟨by omega,k⟩
    ·rintro ⟨h,k⟩; exact ⟨by omega,k⟩
   rw [h1]
   simp only [h2]
   split <;> omega
theorem desk_nil:deskOf b ls []=desk0 b:=by
 unfold deskOf desk0
 congr 1
 ·funext c
  show (ctB b c).room - 0=_
  omega
 ·have:∀ n,penAt b [] n=0:=by
   intro n
   induction n with
   | zero=>rfl
   | succ n ih=>rw [penAt,ih]; rfl
  rw [this]; rfl
theorem desk_snoc (l:List Int) (y:Int) (h:slotB b (sdA b l.length) y=true):deskOf b ls (l ++ [y])=billD b ls (deskOf b ls l) (sdA b l.length) y:=by
 unfold deskOf billD
 by_cases hy:y = -1
 ·subst hy
  rw [if_pos rfl]
  refine Desk.mk.injEq .. |>.mpr ⟨?_,?_,?_⟩
  ·funext c
   rw [sum_snoc,if_neg (by omega)]
  ·funext c
   rw [List.count_append]
   have:List.count (c:Int) [-1]=0:=List.count_eq_zero.2 (by simp)
   rw [this]
   rfl
  ·rw [sgl_snoc,if_pos rfl,pen_snoc,if_neg (by omega)]
   simp only
   omega
 ·rw [if_neg hy]
  have hc:isCt b y=true:=by
   unfold slotB at h
   simp only [Bool.or_eq_true,decide_eq_true_eq,Bool.and_eq_true] at h
   rcases h with h | h
   ·exact absurd h hy
   ·exact h.1
  have hr:=isCt_get hc
  rw [if_pos hc]
  refine Desk.mk.injEq .. |>.mpr ⟨?_,?_,?_⟩
  ·funext c
   rw [sum_snoc]
   unfold setF
   by_cases e:c=y.toNat
   ·subst e
    rw [if_pos (by omega),if_pos rfl]
    have hcount:((y.toNat:Nat):Int)=y:=by omega
    show (ctB b y.toNat).room - (_ + _)=(ctB b y.toNat).room - sumAt b ls l ((y.toNat:Nat):Int) l.length - _
    rw [hcount]
    unfold lnAt
    omega
   ·rw [if_neg (by omega),if_neg e]
  ·funext c
   rw [List.count_append]
   unfold setF
   by_cases e:c=y.toNat
   ·subst e
    have hcount:((y.toNat:Nat):Int)=y:=by omega
    show ((l.count ((y.toNat:Nat):Int) + List.count ((y.toNat:Nat):Int) [y]:Nat):Int)=if y.toNat=y.toNat then ((l.count ((y.toNat:Nat):Int):Nat):Int) + 1 else _
    rw [if_pos rfl,hcount,List.count_singleton_self]; rfl
   ·rw [if_neg e]
    have:List.count (c:Int) [y]=0:=List.count_eq_zero.2 (by simp; omega)
    rw [this]; simp
  ·rw [sgl_snoc,if_neg hy,pen_snoc]
   have hcount:((y.toNat:Nat):Int)=y:=by omega
   show _=if ((l.count ((y.toNat:Nat):Int):Nat):Int) + 1=1 then _ else _
   rw [hcount]
   by_cases hm:y ∈ l
   ·have:=List.count_pos_iff.2 hm
    rw [if_neg (by simp [hm]),if_neg (by omega)]; show _=sglAt b ls l l.length + penAt b l b.ctrs.length; omega
   ·have:=List.count_eq_zero.2 hm
    rw [if_pos ⟨hr,hm⟩,if_pos (by omega)]; show _=sglAt b ls l l.length + penAt b l b.ctrs.length + _; omega
theorem ok_snoc (hl:GoodLn b ls) (l:List Int) (y:Int):pOK b ls (l ++ [y]) ↔ pOK b ls l/\billOK b ls (deskOf b ls l) (sdA b l.length) y=true:=by
 have hp:∀ c:Nat,sumAt b ls l c l.length<=sumAt b ls (l ++ [y]) c (l ++ [y]).length:=by
  intro c
  rw [sum_snoc]
  have:=(hl.2 (sdA b l.length).ad.toNat).1
  unfold lnAt
  split <;> omega
 have hget:∀ i,i < l.length->(l ++ [y]).getD i 0=l.getD i 0:=by
  intro i hi
  rw [getD_append,if_pos hi]
 have hlast:(l ++ [y]).getD l.length 0=y:=by
  rw [getD_append,if_neg (by omega),Nat.sub_self]; rfl
 have hslot:(∀ i,i < (l ++ [y]).length->slotB b (sdA b i) ((l ++ [y]).getD i 0)=true) ↔ (∀ i,i < l.length->slotB b (sdA b i) (l.getD i 0)=true)/\slotB b (sdA b l.length) y=true:=by
  constructor
  ·intro h
   refine ⟨fun i hi => ?_,?_⟩
   ·rw [← hget i hi]; exact h i (by simp; omega)
   ·have:=h l.length (by simp)
    rwa [hlast] at this
  ·rintro ⟨h,k⟩ i hi
   by_cases e:i=l.length
   ·subst e; rw [hlast]; exact k
   ·have hi':i < l.length:=by simp at hi; omega
    rw [hget i hi']; exact h i hi'
 unfold pOK
 rw [hslot]
 constructor
 ·rintro ⟨⟨h1,h2⟩,h3⟩
  refine ⟨⟨h1,fun c hc=>Int.le_trans (hp c) (h3 c hc)⟩,?_⟩
  unfold billOK
  split
  ·rfl
  ·rename_i hy
   unfold slotB at h2
   simp only [Bool.or_eq_true,decide_eq_true_eq,Bool.and_eq_true] at h2
   rcases h2 with h2 | h2
   ·exact absurd h2 hy
   ·have hr:=isCt_get h2.1
    have h4:=h3 y.toNat (by omega)
    rw [sum_snoc,if_pos (by omega)] at h4
    simp only [h2.1,h2.2,Bool.true_and,decide_eq_true_eq]
    unfold lnAt at h4
    show 0<=(ctB b y.toNat).room - _ - _
    omega
 ·rintro ⟨⟨h1,h3⟩,h2⟩
  have hs:slotB b (sdA b l.length) y=true:=by
   unfold billOK at h2
   unfold slotB
   split at h2
   ·rename_i hy; simp [hy]
   ·simp only [Bool.and_eq_true] at h2
    simp [h2.1,h2.2.1]
  refine ⟨⟨h1,hs⟩,fun c hc => ?_⟩
  rw [sum_snoc]
  split
  ·rename_i hy
   subst hy
   unfold billOK at h2
   rw [if_neg (by omega)] at h2
   simp only [Bool.and_eq_true,decide_eq_true_eq] at h2
   have h4:0<=(ctB b (c:Int).toNat).room - sumAt b ls l ((c:Int).toNat:Int) l.length - ls.getD (sdA b l.length).ad.toNat 0:=h2.2.2
   rw [Int.toNat_natCast] at h4
   unfold lnAt
   omega
  ·exact h3 c hc
theorem flat_filter {α β:Type} (p:β->Bool) (f:α->List β) (l:List α):(l.flatMap f).filter p=l.flatMap fun x=>(f x).filter p:=by
 induction l with
 | nil=>rfl
 | cons x l ih=>rw [List.flatMap_cons,List.flatMap_cons,List.filter_append,ih]
theorem bad_none (hl:GoodLn b ls):∀ (m:Nat) (l:List Int),¬ pOK b ls l->(listsB b m l).filter (fun l=>decide (pOK b ls l)) = []:=by
 intro m
 induction m with
 | zero=>intro l h; simp [listsB,h]
 | succ m ih =>
  intro l h
  rw [listsB,flat_filter]
  refine List.flatMap_eq_nil_iff.2 fun y _=>ih _ fun h2=>h ((ok_snoc hl l y).1 h2).1
theorem flatMap_congr8 {α β:Type} {f g:α->List β}:∀ {l:List α},(∀ x,x ∈ l->f x=g x)->l.flatMap f=l.flatMap g:=by
 intro l
 induction l with
 | nil=>intro _; rfl
 | cons x l ih=>intro h; rw [List.flatMap_cons,List.flatMap_cons,h x (by simp),ih (fun y hy=>h y (by simp [hy]))]
theorem map_flat8 {α β γ:Type} (g:β->γ) (f:α->List β) (l:List α):(l.flatMap f).map g=l.flatMap fun x=>(f x).map g:=by
 induction l with
 | nil=>rfl
 | cons x l ih=>rw [List.flatMap_cons,List.flatMap_cons,List.map_append,ih]
theorem exts_lists (hl:GoodLn b ls):∀ (m:Nat) (l:List Int),pOK b ls l->l.length + m=(stds b).length->extsP b ls m (deskOf b ls l) l=((listsB b m l).filter fun l=>decide (pOK b ls l)).map fun l=>(l,costB b ls l):=by
 intro m
 induction m with
 | zero =>
  intro l h hm
  rw [extsP,listsB,List.filter_cons,if_pos (by simpa using h)]
  have:l.length=(stds b).length:=by omega
  show [(l,sglAt b ls l l.length + penAt b l b.ctrs.length)] = [(l,costB b ls l)]
  rw [this]; rfl
 | succ m ih =>
  intro l h hm
  rw [extsP,listsB,flat_filter,map_flat8]
  refine flatMap_congr8 fun y _ => ?_
  by_cases hy:billOK b ls (deskOf b ls l) (sdA b l.length) y=true
  ·have h2:=(ok_snoc hl l y).2 ⟨h,hy⟩
   rw [if_pos hy,← desk_snoc l y ?_]
   ·exact ih _ h2 (by simp; omega)
   ·have:=h2.1 l.length (by simp)
    rwa [getD_append,if_neg (by omega),Nat.sub_self] at this
  ·rw [if_neg hy,bad_none hl m _ fun h2=>hy ((ok_snoc hl l y).1 h2).2]; rfl
theorem bill_ok {l:List Int}:isBillB b ls l=true ↔ l.length=(stds b).length/\pOK b ls l:=by
 unfold isBillB pOK
 simp only [Bool.and_eq_true,decide_eq_true_eq,List.all_eq_true,List.mem_range]
 constructor
 ·rintro ⟨h1,h2,h3⟩; rw [h1]; exact ⟨rfl,h2,h3⟩
 ·rintro ⟨h1,h2,h3⟩; rw [h1] at h2 h3; exact ⟨h1,h2,h3⟩
def billsB (b:Book) (ls:List Int):List (List Int):=(listsB b (stds b).length []).filter (isBillB b ls)
theorem lists_len:∀ (m:Nat) (l x:List Int),x ∈ listsB b m l->x.length=l.length + m:=by
 intro m
 induction m with
 | zero=>intro l x h; simp [listsB] at h; rw [h]; rfl
 | succ m ih =>
  intro l x h
  rw [listsB] at h
  obtain ⟨y,_,h⟩:=List.mem_flatMap.1 h
  have:=ih _ _ h
  simp at this; omega
def firstB (b:Book) (ls:List Int) (l:List (List Int)):Best:=(l.map fun l=>(l,costB b ls l)).foldl updB ([],-1)
theorem best_bills (hs:SoundB b) (hl:GoodLn b ls):bestB b ls=firstB b ls (billsB b ls):=by
 have h0:pOK b ls []:=⟨fun i hi=>absurd hi (by simp),fun c hc=>by
  have:=(hs.ctr c hc).2.2.1
  show 0<=_
  omega⟩
 rw [best_exts hs hl,← desk_nil (b:=b) (ls:=ls),exts_lists hl _ _ h0 (by simp)]
 unfold firstB billsB
 congr 2
 refine List.filter_congr fun x hx => ?_
 have hx:=lists_len _ _ _ hx
 rw [Bool.eq_iff_iff,decide_eq_true_eq,bill_ok]
 constructor
 ·intro h; exact ⟨by simpa using hx,h⟩
 ·exact fun h=>h.2
end Go.Sh
namespace Go.Sh
open Go.Ab
variable {b:Book} {ls:List Int}
def listsR (b:Book):Nat->List (List Int)
 | 0=>[[]]
 | m + 1=>(bysB b).flatMap fun y=>(listsR b m).map (y :: ·)
theorem lists_R:∀ (m:Nat) (l:List Int),listsB b m l=(listsR b m).map (l ++ ·):=by
 intro m
 induction m with
 | zero=>intro l; simp [listsB,listsR]
 | succ m ih =>
  intro l
  rw [listsB,listsR,map_flat8]
  refine flatMap_congr8 fun y _ => ?_
  rw [ih,List.map_map]
  refine List.map_congr_left fun x _ => ?_
  simp
theorem lists_nil (m:Nat):listsB b m []=listsR b m:=by rw [lists_R]; simp
theorem mem_bys {y:Int}:y ∈ bysB b ↔ -1<=y/\y < b.ctrs.length:=by
 unfold bysB
 rw [List.mem_map]
 constructor
 ·rintro ⟨k,hk,rfl⟩; rw [List.mem_range] at hk; omega
 ·intro h; exact ⟨(y + 1).toNat,by rw [List.mem_range]; omega,by omega⟩
theorem mem_R:∀ {m:Nat} {l:List Int},l ∈ listsR b m ↔ l.length=m /\ ∀ y,y ∈ l -> -1<=y/\y < b.ctrs.length:=by
 intro m
 induction m with
 | zero =>
  intro l
  rw [listsR,List.mem_singleton]
  constructor
  ·rintro rfl; exact ⟨rfl,by simp⟩
  ·rintro ⟨h,_⟩; exact List.eq_nil_of_length_eq_zero h
 | succ m ih =>
  intro l
  rw [listsR,List.mem_flatMap]
  constructor
  ·rintro ⟨y,hy,h⟩
   obtain ⟨x,hx,rfl⟩:=List.mem_map.1 h
   have:=ih.1 hx
   refine ⟨by simp [this.1],fun z hz => ?_⟩
   rcases List.mem_cons.1 hz with rfl | hz
   ·exact mem_bys.1 hy
   ·exact this.2 z hz
  ·rintro ⟨h1,h2⟩
   match l,h1,h2 with
   | y :: l,h1,h2=>exact ⟨y,mem_bys.2 (h2 y (by simp)),List.mem_map.2 ⟨l,ih.2 ⟨by simpa using h1,fun z hz=>h2 z (by simp [hz])⟩,rfl⟩⟩
theorem bys_sort:(bysB b).Pairwise (· < ·):=by
 unfold bysB
 rw [List.pairwise_map]
 refine List.pairwise_lt_range.imp ?_
 intro a c h; omega
theorem R_sort:∀ m:Nat,(listsR b m).Pairwise fun x y=>earlier x y=true:=by
 intro m
 induction m with
 | zero=>simp [listsR]
 | succ m ih =>
  rw [listsR,List.pairwise_flatMap]
  refine ⟨fun y _ => ?_,?_⟩
  ·rw [List.pairwise_map]
   refine ih.imp fun {a c} h => ?_
   simp only [earlier]; rw [if_pos trivial]; exact h
  ·refine bys_sort.imp fun {a c} h x hx y hy => ?_
   obtain ⟨x,_,rfl⟩:=List.mem_map.1 hx
   obtain ⟨y,_,rfl⟩:=List.mem_map.1 hy
   simp only [earlier]
   rw [if_neg (by omega)]; exact decide_eq_true h
theorem bill_R {l:List Int} (h:isBillB b ls l=true):l ∈ listsR b (stds b).length:=by
 have h:=bill_ok.1 h
 refine mem_R.2 ⟨h.1,fun y hy => ?_⟩
 obtain ⟨i,hi,rfl⟩:=List.getElem_of_mem hy
 have:=h.2.1 i hi
 rw [getD_lt l 0 hi] at this
 unfold slotB at this
 simp only [Bool.or_eq_true,decide_eq_true_eq,Bool.and_eq_true] at this
 rcases this with h | h
 ·omega
 ·have:=isCt_get h.1; omega
theorem mem_bills {l:List Int}:l ∈ billsB b ls ↔ isBillB b ls l=true:=by
 unfold billsB
 rw [lists_nil,List.mem_filter]
 exact ⟨fun h=>h.2,fun h=>⟨bill_R h,h⟩⟩
theorem bills_sort:(billsB b ls).Pairwise fun x y=>earlier x y=true:=by
 unfold billsB
 rw [lists_nil]
 exact (R_sort _).filter _
theorem sgl_pos (hs:SoundB b) (hl:GoodLn b ls) (l:List Int):∀ n:Nat,0<=sglAt b ls l n/\sglAt b ls l n<=81 * n:=by
 intro n
 induction n with
 | zero=>exact ⟨Int.le_refl _,Int.le_refl _⟩
 | succ n ih =>
  rw [sglAt]
  have:=single_in hs hl (sdA b n)
  split <;> omega
theorem pen_pos (hs:SoundB b) (l:List Int):∀ n:Nat,n<=b.ctrs.length->0<=penAt b l n/\penAt b l n<=99 * n:=by
 intro n
 induction n with
 | zero=>intro _; exact ⟨Int.le_refl _,Int.le_refl _⟩
 | succ n ih =>
  intro h
  rw [penAt]
  have:=(hs.ctr n (by omega)).2.2.2
  have:=ih (by omega)
  split <;> omega
theorem std_mem {s:Sday}:s ∈ stds b ↔ (0<=s.day/\s.day < 14)/\(0<=s.ad/\s.ad < b.lines.length)/\stoodB b s.ad s.day=true:=by
 unfold stds stdsOn
 rw [List.mem_flatMap]
 constructor
 ·rintro ⟨d,hd,h⟩
  rw [List.mem_range] at hd
  obtain ⟨a,ha,h⟩:=List.mem_filterMap.1 h
  rw [List.mem_range] at ha
  split at h
  ·rename_i e
   cases h
   exact ⟨by simp only; omega,by simp only; omega,e⟩
  ·cases h
 ·rintro ⟨h1,h2,h3⟩
  refine ⟨s.day.toNat,by rw [List.mem_range]; omega,List.mem_filterMap.2 ⟨s.ad.toNat,by rw [List.mem_range]; omega,?_⟩⟩
  have e1:((s.day.toNat:Nat):Int)=s.day:=by omega
  have e2:((s.ad.toNat:Nat):Int)=s.ad:=by omega
  rw [e1,e2,if_pos h3]
def ltS (x y:Sday):Prop:=x.day < y.day ∨ (x.day=y.day/\x.ad < y.ad)
theorem std_sort:(stds b).Pairwise ltS:=by
 unfold stds
 rw [List.pairwise_flatMap]
 refine ⟨fun d _ => ?_,?_⟩
 ·unfold stdsOn
  rw [List.pairwise_filterMap]
  refine List.pairwise_lt_range.imp fun {a c} h x hx y hy => ?_
  split at hx
  ·cases hx
   split at hy
   ·cases hy; right; exact ⟨rfl,by simp only; omega⟩
   ·cases hy
  ·cases hx
 ·refine List.pairwise_lt_range.imp fun {a c} h x hx y hy => ?_
  obtain ⟨p,_,h1⟩:=List.mem_filterMap.1 hx
  obtain ⟨q,_,h2⟩:=List.mem_filterMap.1 hy
  split at h1
  ·cases h1
   split at h2
   ·cases h2; left; simp only; omega
   ·cases h2
  ·cases h1
theorem ltS_irr (x:Sday):¬ ltS x x:=by unfold ltS; omega
theorem std_nodup:(stds b).Nodup:=std_sort.imp fun {a c} h e=>by subst e; exact ltS_irr _ h
theorem std_len:(stds b).length<=b.shown.length:=by
 have h:∀ x,x ∈ stds b->x ∈ b.shown.map fun s=>(⟨s.ad,s.day⟩:Sday):=by
  intro x hx
  have h:=(std_mem.1 hx).2.2
  unfold stoodB at h
  obtain ⟨s,hs,h⟩:=List.any_eq_true.1 h
  simp only [Bool.and_eq_true,decide_eq_true_eq] at h
  refine List.mem_map.2 ⟨s,hs,?_⟩
  rw [h.1,h.2]
 have:=(std_nodup (b:=b)).length_le_of_subset h
 simpa using this
theorem cost_in (hs:SoundB b) (hl:GoodLn b ls) (l:List Int):0<=costB b ls l/\costB b ls l<=783:=by
 have h1:=sgl_pos hs hl l (stds b).length
 have h2:=pen_pos hs l b.ctrs.length (Nat.le_refl _)
 have h3:=std_len (b:=b)
 have h4:=hs.shown
 have h5:=hs.ctrs
 unfold costB
 omega
def allS (b:Book):List Int:=List.replicate (stds b).length (-1)
theorem allS_get {i:Nat} (h:i < (stds b).length):(allS b).getD i 0 = -1:=by
 unfold allS
 rw [getD_lt _ _ (by simpa using h),List.getElem_replicate]
theorem allS_sum (c:Nat):∀ n,n<=(stds b).length->sumAt b ls (allS b) c n=0:=by
 intro n
 induction n with
 | zero=>intro _; rfl
 | succ n ih =>
  intro h
  rw [sumAt,allS_get (by omega),if_neg (by omega)]; exact ih (by omega)
theorem allS_bill (hs:SoundB b):isBillB b ls (allS b)=true:=by
 refine bill_ok.2 ⟨by simp [allS],fun i hi => ?_,fun c hc => ?_⟩
 ·rw [allS_get (by simpa [allS] using hi)]; rfl
 ·rw [allS_sum c _ (by simp [allS])]; exact (hs.ctr c hc).2.2.1.1
structure IsBest (b:Book) (ls:List Int) (x:Best):Prop where
 bill:isBillB b ls x.1=true
 cost:x.2=costB b ls x.1
 least:∀ l,isBillB b ls l=true->x.2<=costB b ls l
 first:∀ l,isBillB b ls l=true->costB b ls l=x.2->l=x.1 ∨ earlier x.1 l=true
theorem cheap_spec (hs:SoundB b) (hl:GoodLn b ls):∀ L:List (List Int),L.Pairwise (fun x y=>earlier x y=true)->(L = []/\firstB b ls L=([],-1)) ∨ ((firstB b ls L).1 ∈ L/\(firstB b ls L).2=costB b ls (firstB b ls L).1 /\ ∀ l,l ∈ L->(firstB b ls L).2<=costB b ls l/\(costB b ls l=(firstB b ls L).2->l=(firstB b ls L).1 ∨ earlier (firstB b ls L).1 l=true)):=by
 intro L
 induction L using snoc_ind8 with
 | h0=>intro _; exact .inl ⟨rfl,rfl⟩
 | h1 L y ih =>
  intro hp
  right
  rw [List.pairwise_append] at hp
  have hp3:=fun a ha=>hp.2.2 a ha y (by simp)
  have hsn:firstB b ls (L ++ [y])=updB (firstB b ls L) (y,costB b ls y):=by
   unfold firstB
   rw [List.map_append,List.foldl_append]; rfl
  rw [hsn]
  rcases ih hp.1 with ⟨rfl,e⟩ | ⟨h1,h2,h3⟩
  ·rw [e]
   have:updB ([],-1) (y,costB b ls y)=(y,costB b ls y):=by
    unfold updB; rw [if_neg (by simp)]
   rw [this]
   refine ⟨by simp,rfl,fun l hl => ?_⟩
   have:l=y:=by simpa using hl
   subst this; exact ⟨Int.le_refl _,fun _ => .inl rfl⟩
  ·have hc:=(cost_in hs hl (firstB b ls L).1).1
   unfold updB
   simp only [Bool.and_eq_true,decide_eq_true_eq]
   split
   ·rename_i h
    refine ⟨List.mem_append_left _ h1,h2,fun l hl => ?_⟩
    rcases List.mem_append.1 hl with hl | hl
    ·exact h3 l hl
    ·have:l=y:=by simpa using hl
     subst this
     exact ⟨h.2,fun _ => .inr (hp3 _ h1)⟩
   ·rename_i h
    refine ⟨by simp,rfl,fun l hl => ?_⟩
    rcases List.mem_append.1 hl with hl | hl
    ·have:=(h3 l hl).1
     simp only
     exact ⟨by omega,fun h=>by omega⟩
    ·have:l=y:=by simpa using hl
     subst this; exact ⟨Int.le_refl _,fun _ => .inl rfl⟩
theorem best_is (hs:SoundB b) (hl:GoodLn b ls):IsBest b ls (bestB b ls):=by
 rw [best_bills hs hl]
 rcases cheap_spec hs hl (billsB b ls) bills_sort with ⟨h,_⟩ | ⟨h1,h2,h3⟩
 ·have:=mem_bills.2 (allS_bill (b:=b) (ls:=ls) hs)
  rw [h] at this; cases this
 ·exact ⟨mem_bills.1 h1,h2,fun l hl=>(h3 l (mem_bills.2 hl)).1,fun l hl=>(h3 l (mem_bills.2 hl)).2⟩
theorem best_in (hs:SoundB b) (hl:GoodLn b ls):0<=(bestB b ls).2/\(bestB b ls).2<=783:=by
 rw [(best_is hs hl).cost]; exact cost_in hs hl _
end Go.Sh
namespace Go.Sh
open Go.Ab
variable {b o:Book} {ls ms:List Int}
def refBT (b:Book) (ls:List Int) (L:List (List Int)):Nat->Nat × Int
 | 0=>(0,costB b ls (L.getD 0 []))
 | k + 1=>if isBillB b ls (L.getD (k + 1) []) && decide (costB b ls (L.getD (k + 1) []) < (refBT b ls L k).2) then (k + 1,costB b ls (L.getD (k + 1) [])) else refBT b ls L k
theorem R_head:∀ m:Nat,∃ t,listsR b m=List.replicate m (-1) :: t:=by
 intro m
 induction m with
 | zero=>exact ⟨[],rfl⟩
 | succ m ih =>
  obtain ⟨t,ht⟩:=ih
  rw [listsR,ht]
  refine ⟨t.map ((-1) :: ·) ++ ((List.range b.ctrs.length).map fun (k:Nat)=>(k:Int)).flatMap fun y=>(List.replicate m (-1) :: t).map (y :: ·),?_⟩
  have:bysB b = -1 :: (List.range b.ctrs.length).map fun (k:Nat)=>(k:Int):=by
   unfold bysB
   rw [List.range_succ_eq_map,List.map_cons,List.map_map]
   congr 1
   refine List.map_congr_left fun k _ => ?_
   simp only [Function.comp_apply]; omega
  rw [this,List.flatMap_cons]; rfl
theorem ref_to (hs:SoundB b) (hl:GoodLn b ls) {L:List (List Int)} (hL:L=listsB b (stds b).length []):∀ k,k < L.length->(refBT b ls L k).1 < L.length/\(L.getD (refBT b ls L k).1 [],(refBT b ls L k).2)=firstB b ls ((L.take (k + 1)).filter (isBillB b ls)):=by
 intro k
 have hsn:∀ (M:List (List Int)) (y:List Int),firstB b ls (M ++ [y])=updB (firstB b ls M) (y,costB b ls y):=by
  intro M y; unfold firstB; rw [List.map_append,List.foldl_append]; rfl
 induction k with
 | zero =>
  intro h
  obtain ⟨t,ht⟩:=R_head (b:=b) (stds b).length
  rw [lists_nil] at hL
  have h0:L.getD 0 []=allS b:=by rw [hL,ht]; rfl
  refine ⟨h,?_⟩
  rw [take_succ L [] h,List.take_zero,List.nil_append,List.filter_cons,h0,if_pos (allS_bill hs)]
  show (L.getD 0 [],costB b ls (L.getD 0 []))=updB ([],-1) (allS b,costB b ls (allS b))
  unfold updB
  rw [if_neg (by simp),h0]
 | succ k ih =>
  intro h
  obtain ⟨h1,h2⟩:=ih (by omega)
  rw [take_succ L [] h,List.filter_append]
  rw [refBT]
  by_cases hb:isBillB b ls (L.getD (k + 1) [])=true
  ·have e:[L.getD (k + 1) []].filter (isBillB b ls) = [L.getD (k + 1) []]:=by rw [List.filter_cons,if_pos hb]; rfl
   rw [e,hsn,← h2,hb,Bool.true_and]
   have h3:0<=(refBT b ls L k).2:=by
    have h4:=congrArg Prod.snd h2
    simp only at h4
    rw [h4]
    rcases cheap_spec hs hl ((L.take (k + 1)).filter (isBillB b ls)) ((List.Pairwise.sublist (List.take_sublist _ _) (by rw [hL,lists_nil]; exact R_sort _)).filter _) with ⟨hn,_⟩ | ⟨_,h5,_⟩
    ·exfalso
     obtain ⟨t,ht⟩:=R_head (b:=b) (stds b).length
     have hm:allS b ∈ (L.take (k + 1)).filter (isBillB b ls):=by
      refine List.mem_filter.2 ⟨?_,allS_bill hs⟩
      rw [hL,lists_nil,ht,List.take_succ_cons]; exact List.mem_cons_self
     rw [hn] at hm; cases hm
    ·rw [h5]; exact (cost_in hs hl _).1
   unfold updB
   simp only [Bool.and_eq_true,decide_eq_true_eq]
   split
   ·rw [if_neg (by omega)]; exact ⟨h,rfl⟩
   ·rw [if_pos (by omega)]; exact ⟨h1,rfl⟩
  ·have e:[L.getD (k + 1) []].filter (isBillB b ls) = []:=by rw [List.filter_cons,if_neg hb]; rfl
   rw [e,List.append_nil,← h2]
   rw [if_neg (by rw [Bool.and_eq_true]; exact fun h=>hb h.1)]
   exact ⟨h1,rfl⟩
theorem ref_bill (hs:SoundB b) (hl:GoodLn b ls) {L:List (List Int)} (hL:L=listsB b (stds b).length []):0 < L.length/\(refBT b ls L (L.length - 1)).1 < L.length/\L.getD (refBT b ls L (L.length - 1)).1 []=(bestB b ls).1/\(refBT b ls L (L.length - 1)).2=(bestB b ls).2:=by
 have h0:0 < L.length:=by
  obtain ⟨t,ht⟩:=R_head (b:=b) (stds b).length
  rw [hL,lists_nil,ht]; simp
 obtain ⟨h1,h2⟩:=ref_to hs hl hL (L.length - 1) (by omega)
 have e:L.take (L.length - 1 + 1)=L:=by rw [List.take_of_length_le (by omega)]
 rw [e] at h2
 have h3:bestB b ls=firstB b ls (L.filter (isBillB b ls)):=by rw [best_bills hs hl]; unfold billsB; rw [hL]
 rw [← h3] at h2
 exact ⟨h0,h1,congrArg Prod.fst h2,congrArg Prod.snd h2⟩
theorem R_len:∀ m:Nat,(listsR b m).length=(b.ctrs.length + 1) ^ m:=by
 intro m
 induction m with
 | zero=>rfl
 | succ m ih =>
  rw [listsR,List.length_flatMap]
  have:((bysB b).map fun y=>((listsR b m).map (y :: ·)).length)=(bysB b).map fun _=>(b.ctrs.length + 1) ^ m:=by
   refine List.map_congr_left fun y _ => ?_
   rw [List.length_map,ih]
  rw [this,List.map_const',List.sum_replicate_nat]
  unfold bysB
  rw [List.length_map,List.length_range,Nat.pow_succ,Nat.mul_comm]
theorem best_le (hb:SoundB b) (hl:GoodLn b ls) (ho:SoundB o) (hm:GoodLn o ms) (h:∀ l,isBillB b ls l=true -> ∃ k,isBillB o ms k=true/\costB o ms k<=costB b ls l):(bestB o ms).2<=(bestB b ls).2:=by
 have h1:=best_is hb hl
 obtain ⟨k,h2,h3⟩:=h _ h1.bill
 have:=(best_is ho hm).least k h2
 rw [h1.cost]; omega
theorem stds_congr (hn:o.lines.length=b.lines.length) (h:∀ a d,stoodB o a d=stoodB b a d):stds o=stds b:=by
 unfold stds stdsOn
 simp only [hn,h]
theorem sum_le (h:∀ i,0<=ls.getD i 0/\ls.getD i 0<=ms.getD i 0) (l:List Int) (c:Int):∀ n,sumAt b ls l c n<=sumAt b ms l c n:=by
 intro n
 induction n with
 | zero=>exact Int.le_refl _
 | succ n ih =>
  rw [sumAt,sumAt]
  have:=(h (sdA b n).ad.toNat).2
  unfold lnAt
  split <;> omega
theorem sgl_le (hs:SoundB b) (h:∀ i,0<=ls.getD i 0/\ls.getD i 0<=ms.getD i 0) (l:List Int):∀ n,sglAt b ls l n<=sglAt b ms l n:=by
 intro n
 induction n with
 | zero=>exact Int.le_refl _
 | succ n ih =>
  rw [sglAt,sglAt]
  have h1:=(h (sdA b n).ad.toNat).2
  have h2:=Int.mul_le_mul_of_nonneg_left h1 (rate_in hs (sdA b n)).1
  unfold singleP
  split <;> omega
theorem best_mono (hs:SoundB b) (hl:GoodLn b ls) (hm:GoodLn b ms) (h:∀ i,ls.getD i 0<=ms.getD i 0):(bestB b ls).2<=(bestB b ms).2:=by
 have h':∀ i,0<=ls.getD i 0/\ls.getD i 0<=ms.getD i 0:=fun i=>⟨(hl.2 i).1,h i⟩
 refine best_le hs hm hs hl fun l hb=>⟨l,?_,?_⟩
 ·have hb:=bill_ok.1 hb
  exact bill_ok.2 ⟨hb.1,hb.2.1,fun c hc=>Int.le_trans (sum_le h' l c _) (hb.2.2 c hc)⟩
 ·have:=sgl_le hs h' l (stds b).length
  unfold costB
  omega
end Go.Sh
namespace Go.Sh
open Go.Ab
variable {b o:Book} {ls ms:List Int}
def withC (b:Book) (cs:List Ctr):Book:={ b with ctrs:=cs }
theorem withC_good {cs:List Ctr} (h:GoodLn b ls):GoodLn (withC b cs) ls:=h
theorem bill_lt {l:List Int} (h:isBillB b ls l=true) {y:Int} (hy:y ∈ l) : -1<=y/\y < b.ctrs.length:=(mem_R.1 (bill_R h)).2 y hy
def woC (b:Book) (c:Nat):Book:=withC b (b.ctrs.take c ++ b.ctrs.drop (c + 1))
theorem wo_len {c:Nat} (h:c < b.ctrs.length):(woC b c).ctrs.length + 1=b.ctrs.length:=by
 show (b.ctrs.take c ++ b.ctrs.drop (c + 1)).length + 1=_
 rw [List.length_append,List.length_take,List.length_drop]; omega
theorem wo_get {c:Nat} (h:c < b.ctrs.length) (k:Nat):ctB (woC b c) k=ctB b (if k < c then k else k + 1):=by
 unfold ctB woC withC
 simp only
 rw [getD_append,List.length_take,Nat.min_eq_left (by omega)]
 split
 ·rw [List.getD_eq_getElem?_getD,List.getD_eq_getElem?_getD,List.getElem?_take_of_lt (by assumption)]
 ·rw [List.getD_eq_getElem?_getD,List.getD_eq_getElem?_getD,List.getElem?_drop]
  congr 2; omega
theorem wo_sound {c:Nat} (hs:SoundB b) (h:c < b.ctrs.length):SoundB (woC b c):=by
 have hl:=wo_len h
 refine { lines:=hs.lines,shown:=hs.shown,ctrs := ?_,rate:=hs.rate,line:=hs.line,show_:=hs.show_,ctr:=fun i hi => ?_ }
 ·have:=hs.ctrs; omega
 ·rw [wo_get h]
  refine hs.ctr _ ?_
  split <;> omega
end Go.Sh
namespace Go.Sh
open Go.Ab
variable {b o:Book} {ls ms:List Int}
end Go.Sh
namespace Go.Sh
open Go.Ab
variable {b o:Book} {ls ms:List Int}
theorem ok_soundB (h:okBook b=true):SoundB b:=by
 unfold okBook okHeadB at h
 simp only [Bool.and_eq_true,decide_eq_true_eq,within_iff] at h
 obtain ⟨⟨⟨⟨⟨⟨⟨h1,h2⟩,h3⟩,h4⟩,h5⟩,h6⟩,h7⟩,h8⟩:=h
 refine { lines:=by omega,shown:=by omega,ctrs:=by omega,rate:=by omega,line:=fun i hi => ?_,show_:=fun i hi => ?_,ctr:=fun i hi => ?_ }
 ·have:=idx_all default h6 hi
  unfold okLn isSpan at this
  simp only [Bool.and_eq_true,within_iff] at this
  unfold lnB; omega
 ·rw [List.all_eq_true] at h7
  have:=h7 i (List.mem_range.2 hi)
  unfold okShn isAd at this
  simp only [Bool.and_eq_true,within_iff] at this
  omega
 ·have:=idx_all default h8 hi
  unfold okCtr at this
  simp only [Bool.and_eq_true,within_iff] at this
  unfold ctB; omega
def areLn (b:Book) (ls:List Int):Bool:=decide (ls.length=b.lines.length) && ls.all fun n=>within n 0 9
theorem are_good (h:areLn b ls=true):GoodLn b ls:=by
 unfold areLn at h
 simp only [Bool.and_eq_true,decide_eq_true_eq] at h
 refine ⟨h.1,fun i => ?_⟩
 by_cases hi:i < ls.length
 ·exact within_iff.1 (idx_all 0 h.2 hi)
 ·rw [getD_ge _ _ (by omega)]; omega
def lowsB (b:Book):List Int:=b.lines.map (·.lo)
def highsB (b:Book):List Int:=b.lines.map (·.hi)
theorem lows_get {i:Nat} (h:i < b.lines.length):(lowsB b).getD i 0=(lnB b i).lo:=by
 unfold lowsB lnB
 rw [getD_lt _ _ (by simpa using h),getD_lt _ _ h,List.getElem_map]
theorem highs_get {i:Nat} (h:i < b.lines.length):(highsB b).getD i 0=(lnB b i).hi:=by
 unfold highsB lnB
 rw [getD_lt _ _ (by simpa using h),getD_lt _ _ h,List.getElem_map]
theorem lows_good (hs:SoundB b):GoodLn b (lowsB b):=by
 refine ⟨by simp [lowsB],fun i => ?_⟩
 by_cases hi:i < b.lines.length
 ·rw [lows_get hi]; have:=hs.line i hi; omega
 ·rw [getD_ge _ _ (by simp [lowsB]; omega)]; omega
theorem highs_good (hs:SoundB b):GoodLn b (highsB b):=by
 refine ⟨by simp [highsB],fun i => ?_⟩
 by_cases hi:i < b.lines.length
 ·rw [highs_get hi]; have:=hs.line i hi; omega
 ·rw [getD_ge _ _ (by simp [highsB]; omega)]; omega
def owedB (b:Book):Span:=⟨(bestB b (lowsB b)).2,(bestB b (highsB b)).2⟩
theorem owed_in (hs:SoundB b):0<=(owedB b).lo/\(owedB b).lo<=(owedB b).hi/\(owedB b).hi<=783:=by
 have h1:=best_in hs (lows_good hs)
 have h2:=best_in hs (highs_good hs)
 refine ⟨h1.1,best_mono hs (lows_good hs) (highs_good hs) fun i => ?_,h2.2⟩
 by_cases hi:i < b.lines.length
 ·rw [lows_get hi,highs_get hi]; have:=hs.line i hi; omega
 ·rw [getD_ge _ _ (by simp [lowsB]; omega),getD_ge _ _ (by simp [highsB]; omega)]; exact Int.le_refl _
def InLn (b:Book) (ls:List Int):Prop:=ls.length=b.lines.length /\ ∀ i,i < b.lines.length->(lnB b i).lo<=ls.getD i 0/\ls.getD i 0<=(lnB b i).hi
def cntB (b:Book) (i:Nat) (n:Int):Book:={ b with lines:=b.lines.set i ⟨n,n⟩ }
theorem cnt_len (i:Nat) (n:Int):(cntB b i n).lines.length=b.lines.length:=by simp [cntB]
theorem cnt_get (i:Nat) (n:Int) {k:Nat} (h:k < b.lines.length):lnB (cntB b i n) k=if k=i then ⟨n,n⟩ else lnB b k:=by
 unfold lnB cntB
 simp only
 rw [getD_lt _ _ (by simpa using h),List.getElem_set,getD_lt _ _ h]
 by_cases e:k=i
 ·rw [if_pos e.symm,if_pos e]
 ·rw [if_neg (fun h=>e h.symm),if_neg e]
theorem cnt_sound (hs:SoundB b) {i:Nat} {n:Int} (h:0<=n/\n<=9):SoundB (cntB b i n):=by
 refine { lines:=by rw [cnt_len]; exact hs.lines,shown:=hs.shown,ctrs:=hs.ctrs,rate:=hs.rate,line:=fun k hk => ?_,show_:=fun k hk => ?_,ctr:=hs.ctr }
 ·rw [cnt_len] at hk
  rw [cnt_get i n hk]
  split
  ·simp only; omega
  ·exact hs.line k hk
 ·rw [cnt_len]; exact hs.show_ k hk
def widB (s:Span):Int:=s.hi - s.lo
def worstTo (b:Book) (i:Nat):Nat->Int
 | 0=>0
 | k + 1=>max (worstTo b i k) (widB (owedB (cntB b i ((lnB b i).lo + k))))
def lnN (b:Book) (i:Nat):Nat:=((lnB b i).hi - (lnB b i).lo + 1).toNat
def worstB (b:Book) (i:Nat):Int:=worstTo b i (lnN b i)
def measTo (b:Book):Nat->Int × Int
 | 0=>(-1,0)
 | i + 1=>if decide ((measTo b i).1 < 0) || decide (worstB b i < (measTo b i).2) then ((i:Int),worstB b i) else measTo b i
theorem meas_spec:∀ n,0 < n -> ∃ i,i < n/\measTo b n=((i:Int),worstB b i) /\ ∀ k,k < n->worstB b i<=worstB b k/\(worstB b k=worstB b i->i<=k):=by
 intro n
 induction n with
 | zero=>intro h; omega
 | succ n ih =>
  intro _
  by_cases hn:n=0
  ·subst hn
   refine ⟨0,by omega,rfl,fun k hk => ?_⟩
   have:k=0:=by omega
   subst this; exact ⟨Int.le_refl _,fun _=>Nat.le_refl _⟩
  ·obtain ⟨i,h1,h2,h3⟩:=ih (by omega)
   rw [measTo,h2]
   by_cases hw:worstB b n < worstB b i
   ·rw [if_pos (by simp [hw])]
    refine ⟨n,by omega,rfl,fun k hk => ?_⟩
    by_cases e:k=n
    ·subst e; exact ⟨Int.le_refl _,fun _=>Nat.le_refl _⟩
    ·have:=(h3 k (by omega)).1
     exact ⟨by omega,fun e=>by omega⟩
   ·rw [if_neg]
    ·refine ⟨i,by omega,rfl,fun k hk => ?_⟩
     by_cases e:k=n
     ·subst e; exact ⟨by omega,fun _=>by omega⟩
     ·exact h3 k (by omega)
    ·simp only [Bool.or_eq_true,decide_eq_true_eq]; omega
def boughtB (b:Book) (ls:List Int):List Int:=(List.range b.ctrs.length).filterMap fun (c:Nat)=>if isIn (bestB b ls).1 c then some (c:Int) else none
theorem bought_mem {x:Int}:x ∈ boughtB b ls ↔ (0<=x/\x < b.ctrs.length)/\isIn (bestB b ls).1 x=true:=by
 unfold boughtB
 rw [List.mem_filterMap]
 constructor
 ·rintro ⟨c,hc,h⟩
  rw [List.mem_range] at hc
  split at h
  ·rename_i e; cases h; exact ⟨by omega,e⟩
  ·cases h
 ·rintro ⟨h1,h2⟩
  refine ⟨x.toNat,by rw [List.mem_range]; omega,?_⟩
  have e:((x.toNat:Nat):Int)=x:=by omega
  rw [e,if_pos h2]
theorem bought_sort:(boughtB b ls).Pairwise (· < ·):=by
 unfold boughtB
 rw [List.pairwise_filterMap]
 refine List.pairwise_lt_range.imp fun {a c} h x hx y hy => ?_
 split at hx
 ·cases hx
  split at hy
  ·cases hy; omega
  ·cases hy
 ·cases hx
theorem rise_ext {l m:List Int} (hl:l.Pairwise (· < ·)) (hm:m.Pairwise (· < ·)) (h:∀ x,x ∈ l ↔ x ∈ m):l=m:=by
 refine List.Perm.eq_of_pairwise (le:=(· < ·)) (fun x y _ _ h1 h2 => ?_) hl hm ?_
 ·omega
 ·refine (List.perm_ext_iff_of_nodup ?_ ?_).2 h
  ·exact hl.imp fun {a c} h e=>by omega
  ·exact hm.imp fun {a c} h e=>by omega
theorem bought_ext (hs:SoundB b) (hl:GoodLn b ls) {l:List Int} (h1:l.Pairwise (· < ·)) (h2:∀ x,x ∈ l ↔ x ∈ (bestB b ls).1/\x ≠ -1):l=boughtB b ls:=by
 refine rise_ext h1 bought_sort fun x => ?_
 rw [h2,bought_mem,isIn_iff8]
 constructor
 ·rintro ⟨h,k⟩
  have:=bill_lt (best_is hs hl).bill h
  exact ⟨by omega,h⟩
 ·rintro ⟨h,k⟩; exact ⟨k,by omega⟩
def daysIn (l:List Sday) (d:Sday):Bool:=l.any fun x=>decide (x=d)
def twiceAt (b:Book) (l:List Sday) (i:Nat):Bool := !daysIn (stds b) (l.getD i default) || daysIn (l.take i) (l.getD i default)
def twiceTo (b:Book) (l:List Sday) (n:Nat):List Int:=(List.range n).filterMap fun (i:Nat)=>if twiceAt b l i then some (i:Int) else none
def twiceB (b:Book) (l:List Sday):List Int:=twiceTo b l l.length
end Go.Sh
namespace Go.Sh
open Go.Ab
variable {b o:Book} {ls ms:List Int}
def widS (s:Span):Nat:=(s.hi - s.lo + 1).toNat
def prodW:List Span->Nat
 | []=>1
 | s :: ss=>widS s * prodW ss
def lineN:List Span->Nat->List Int
 | [],_=>[]
 | s :: ss,i=>(s.lo + (i % widS s:Nat)) :: lineN ss (i / widS s)
def RisS (ss:List Span):Prop := ∀ q,q < ss.length->(ss.getD q default).lo<=(ss.getD q default).hi
theorem RisS.tail {s:Span} {ss:List Span} (h:RisS (s :: ss)):RisS ss:=fun q hq=>h (q + 1) (Nat.succ_lt_succ hq)
theorem RisS.head {s:Span} {ss:List Span} (h:RisS (s :: ss)):0 < widS s/\(widS s:Int)=s.hi - s.lo + 1:=by
 have:s.lo<=s.hi:=h 0 (Nat.succ_pos _)
 unfold widS; omega
theorem prodW_pos:∀ {ss:List Span},RisS ss->0 < prodW ss:=by
 intro ss
 induction ss with
 | nil=>intro _; exact Nat.one_pos
 | cons s ss ih=>intro h; exact Nat.mul_pos h.head.1 (ih h.tail)
theorem lineN_len:∀ (ss:List Span) (i:Nat),(lineN ss i).length=ss.length
 | [],_=>rfl
 | _ :: ss,i=>by rw [lineN,List.length_cons,lineN_len ss,List.length_cons]
theorem lineN_zero:∀ {ss:List Span} (q:Nat),q < ss.length->(lineN ss 0).getD q 0=(ss.getD q default).lo:=by
 intro ss
 induction ss with
 | nil=>intro q hq; exact absurd hq (Nat.not_lt_zero _)
 | cons s ss ih =>
  intro q hq
  rw [lineN,Nat.zero_mod,Nat.zero_div]
  cases q with
  | zero=>show s.lo + ((0:Nat):Int)=s.lo; omega
  | succ q=>exact ih q (Nat.lt_of_succ_lt_succ hq)
theorem lineN_in:∀ {ss:List Span},RisS ss -> ∀ (i:Nat) (q:Nat),q < ss.length->(ss.getD q default).lo<=(lineN ss i).getD q 0/\(lineN ss i).getD q 0<=(ss.getD q default).hi:=by
 intro ss
 induction ss with
 | nil=>intro _ i q hq; exact absurd hq (Nat.not_lt_zero _)
 | cons s ss ih =>
  intro h i q hq
  rw [lineN]
  cases q with
  | zero =>
   have h1:=h.head
   have h2:=Nat.mod_lt i h1.1
   show s.lo<=s.lo + ((i % widS s:Nat):Int)/\s.lo + ((i % widS s:Nat):Int)<=s.hi
   generalize i % widS s=d at h2 ⊢
   omega
  | succ q=>exact ih h.tail _ q (Nat.lt_of_succ_lt_succ hq)
theorem lineN_full:∀ {ss:List Span},RisS ss -> ∀ {i:Nat},i < prodW ss->(∀ q,q < ss.length->(lineN ss i).getD q 0=(ss.getD q default).hi)->i + 1=prodW ss:=by
 intro ss
 induction ss with
 | nil=>intro _ i hi _; have:i < 1:=hi; show i + 1=1; omega
 | cons s ss ih =>
  intro h i hi hf
  have h0:=h.head
  have h1:s.lo + ((i % widS s:Nat):Int)=s.hi:=hf 0 (Nat.succ_pos _)
  have hi':i < widS s * prodW ss:=hi
  have h2:=ih h.tail (i:=i / widS s) (Nat.div_lt_of_lt_mul hi') (fun q hq=>hf (q + 1) (Nat.succ_lt_succ hq))
  have h3:=Nat.div_add_mod i (widS s)
  show i + 1=widS s * prodW ss
  rw [← h2,Nat.mul_add,Nat.mul_one]
  omega
theorem lineN_next:∀ {ss:List Span},RisS ss -> ∀ {i:Nat},i < prodW ss -> ∀ {k:Nat},k < ss.length->(∀ q,q < k->(lineN ss i).getD q 0=(ss.getD q default).hi) →
  (lineN ss i).getD k 0 ≠ (ss.getD k default).hi->i + 1 < prodW ss /\ ∀ q,q < ss.length->(lineN ss (i + 1)).getD q 0=if q=k then (lineN ss i).getD q 0 + 1 else if q < k then (ss.getD q default).lo else (lineN ss i).getD q 0:=by
 intro ss
 induction ss with
 | nil=>intro _ i _ k hk; exact absurd hk (Nat.not_lt_zero _)
 | cons s ss ih =>
  intro h i hi k hk hf hn
  have h0:=h.head
  have hm:=Nat.mod_lt i h0.1
  have h3:=Nat.div_add_mod i (widS s)
  have hi':i < widS s * prodW ss:=hi
  have hd:i / widS s < prodW ss:=Nat.div_lt_of_lt_mul hi'
  cases k with
  | zero =>
   have hn':s.lo + ((i % widS s:Nat):Int) ≠ s.hi:=hn
   have hlt:i % widS s + 1 < widS s:=by omega
   have e1:i + 1=(i % widS s + 1) + widS s * (i / widS s):=by omega
   have e2:(i + 1) / widS s=i / widS s:=by rw [e1,Nat.add_mul_div_left _ _ h0.1,Nat.div_eq_of_lt hlt,Nat.zero_add]
   have e3:(i + 1) % widS s=i % widS s + 1:=by rw [e1,Nat.add_mul_mod_self_left,Nat.mod_eq_of_lt hlt]
   refine ⟨?_,fun q hq => ?_⟩
   ·show i + 1 < widS s * prodW ss
    refine Nat.lt_of_lt_of_le (m:=widS s * (i / widS s + 1)) (by rw [Nat.mul_add,Nat.mul_one]; omega) (Nat.mul_le_mul_left _ hd)
   ·rw [lineN,lineN,e2,e3]
    cases q with
    | zero=>rw [if_pos rfl]; show s.lo + ((i % widS s + 1:Nat):Int)=s.lo + ((i % widS s:Nat):Int) + 1; omega
    | succ q=>rw [if_neg (by omega),if_neg (by omega)]; rfl
  | succ k =>
   have h1:s.lo + ((i % widS s:Nat):Int)=s.hi:=hf 0 (Nat.succ_pos _)
   obtain ⟨g1,g2⟩:=ih h.tail hd (Nat.lt_of_succ_lt_succ hk) (fun q hq=>hf (q + 1) (Nat.succ_lt_succ hq)) hn
   have e1:i + 1=widS s * (i / widS s + 1):=by rw [Nat.mul_add,Nat.mul_one]; omega
   have e2:(i + 1) / widS s=i / widS s + 1:=by rw [e1,Nat.mul_div_cancel_left _ h0.1]
   have e3:(i + 1) % widS s=0:=by rw [e1,Nat.mul_mod_right]
   refine ⟨?_,fun q hq => ?_⟩
   ·show i + 1 < widS s * prodW ss
    rw [e1]; exact Nat.mul_lt_mul_of_pos_left g1 h0.1
   ·rw [lineN,lineN,e2,e3]
    cases q with
    | zero=>rw [if_neg (by omega),if_pos (by omega)]; show s.lo + ((0:Nat):Int)=s.lo; omega
    | succ q =>
     have:=g2 q (Nat.lt_of_succ_lt_succ hq)
     by_cases c1:q=k
     ·rw [if_pos c1] at this; rw [if_pos (by omega)]; exact this
     ·rw [if_neg c1] at this
      rw [if_neg (by omega)]
      by_cases c2:q < k
      ·rw [if_pos c2] at this; rw [if_pos (by omega)]; exact this
      ·rw [if_neg c2] at this; rw [if_neg (by omega)]; exact this
theorem lineN_all:∀ {ss:List Span},RisS ss -> ∀ {l:List Int},l.length=ss.length->(∀ q,q < ss.length->(ss.getD q default).lo<=l.getD q 0/\l.getD q 0<=(ss.getD q default).hi) -> ∃ i,i < prodW ss/\lineN ss i=l:=by
 intro ss
 induction ss with
 | nil=>intro _ l hl _; exact ⟨0,Nat.one_pos,(List.eq_nil_of_length_eq_zero hl).symm⟩
 | cons s ss ih =>
  intro h l hl hr
  cases l with
  | nil=>cases hl
  | cons x l =>
   obtain ⟨j,hj,e⟩:=ih h.tail (l:=l) (by simpa using hl) (fun q hq=>hr (q + 1) (Nat.succ_lt_succ hq))
   have h0:=h.head
   have hx:s.lo<=x/\x<=s.hi:=hr 0 (Nat.succ_pos _)
   have hlt:(x - s.lo).toNat < widS s:=by omega
   refine ⟨(x - s.lo).toNat + widS s * j,?_,?_⟩
   ·show _ < widS s * prodW ss
    refine Nat.lt_of_lt_of_le (m:=widS s * (j + 1)) (by rw [Nat.mul_add,Nat.mul_one]; omega) (Nat.mul_le_mul_left _ hj)
   ·rw [lineN,Nat.add_mul_mod_self_left,Nat.mod_eq_of_lt hlt,Nat.add_mul_div_left _ _ h0.1,Nat.div_eq_of_lt hlt,Nat.zero_add,e]
    congr 1; omega
def rowL (ss:List Span) (i n q:Nat):Int:=if q < n then (ss.getD q default).lo else (lineN ss i).getD q 0
def nTr (b:Book):Nat:=prodW b.lines
def trN (b:Book) (i:Nat):List Int:=lineN b.lines i
theorem SoundB.ris (hs:SoundB b):RisS b.lines:=fun q hq=>(hs.line q hq).2.1
theorem tr_in (hs:SoundB b) (i:Nat):InLn b (trN b i):=⟨lineN_len _ _,fun q hq=>lineN_in hs.ris i q hq⟩
theorem in_good (hs:SoundB b) (h:InLn b ls):GoodLn b ls:=by
 refine ⟨h.1,fun i => ?_⟩
 by_cases hi:i < b.lines.length
 ·have h1:=h.2 i hi
  have h2:=hs.line i hi
  omega
 ·rw [getD_ge _ _ (by rw [h.1]; omega)]; omega
theorem tr_good (hs:SoundB b) (i:Nat):GoodLn b (trN b i):=in_good hs (tr_in hs i)
theorem tr_all (hs:SoundB b) (h:InLn b ls):∃ i,i < nTr b/\trN b i=ls:=lineN_all hs.ris h.1 h.2
theorem prodW_le:∀ {ss:List Span},(∀ q,q < ss.length->widS (ss.getD q default)<=10)->prodW ss<=10 ^ ss.length:=by
 intro ss
 induction ss with
 | nil=>intro _; exact Nat.le_refl _
 | cons s ss ih =>
  intro h
  have h1:=h 0 (Nat.succ_pos _)
  have h2:=ih (fun q hq=>h (q + 1) (Nat.succ_lt_succ hq))
  show widS s * prodW ss<=10 ^ (ss.length + 1)
  rw [Nat.pow_succ,Nat.mul_comm (10 ^ ss.length)]
  exact Nat.mul_le_mul h1 h2
theorem nTr_le (hs:SoundB b):nTr b<=1000:=by
 have h1:prodW b.lines<=10 ^ b.lines.length:=prodW_le fun q hq=>by
  have:=hs.line q hq
  unfold lnB at this
  unfold widS; omega
 have h2:10 ^ b.lines.length<=10 ^ 3:=Nat.pow_le_pow_right (by omega) hs.lines
 exact Nat.le_trans h1 h2
theorem nTr_pos (hs:SoundB b):0 < nTr b:=prodW_pos hs.ris
def soTo (b:Book) (c:Int) (n:Nat):Nat:=((List.range n).filter fun i=>isIn (boughtB b (trN b i)) c).length
theorem soTo_succ (b:Book) (c:Int) (n:Nat):soTo b c (n + 1)=soTo b c n + if isIn (boughtB b (trN b n)) c then 1 else 0:=by
 unfold soTo
 rw [List.range_succ,List.filter_append,List.length_append,List.filter_cons]
 split <;> rfl
theorem soTo_le (b:Book) (c:Int) (n:Nat):soTo b c n<=n:=by
 unfold soTo; exact Nat.le_trans (List.length_filter_le _ _) (by rw [List.length_range]; omega)
def buyB (b:Book) (c:Int):Int:=if soTo b c (nTr b)=0 then 2 else if nTr b - soTo b c (nTr b)=0 then 1 else 3
def truthsB (b:Book):Nat->List Int->List (List Int)
 | 0,l=>[l]
 | m + 1,l=>(List.range (lnN b l.length)).flatMap fun (k:Nat)=>truthsB b m (l ++ [(lnB b l.length).lo + k])
theorem truths_mem (hs:SoundB b):∀ (m:Nat) (l x:List Int),l.length + m=b.lines.length->(x ∈ truthsB b m l ↔ x.length=b.lines.length/\x.take l.length=l /\ ∀ q,l.length<=q->q < b.lines.length->(lnB b q).lo<=x.getD q 0/\x.getD q 0<=(lnB b q).hi):=by
 intro m
 induction m with
 | zero =>
  intro l x h
  rw [truthsB,List.mem_singleton]
  constructor
  ·rintro rfl; exact ⟨by omega,List.take_length,fun q h1 h2=>by omega⟩
  ·rintro ⟨h1,h2,_⟩
   rw [List.take_of_length_le (by omega)] at h2; exact h2
 | succ m ih =>
  intro l x h
  rw [truthsB,List.mem_flatMap]
  have hln:=hs.line l.length (by omega)
  constructor
  ·rintro ⟨k,hk,hx⟩
   rw [List.mem_range] at hk
   rw [ih _ _ (by simp; omega)] at hx
   obtain ⟨h1,h2,h3⟩:=hx
   rw [List.length_append,List.length_singleton] at h2 h3
   have h4:l.length < x.length:=by omega
   rw [take_succ x 0 h4] at h2
   obtain ⟨h5,h6⟩:=List.append_inj' h2 rfl
   refine ⟨h1,h5,fun q hq hq2 => ?_⟩
   by_cases e:q=l.length
   ·subst e
    have h7:x.getD l.length 0=(lnB b l.length).lo + k:=by simpa using h6
    rw [h7]
    unfold lnN at hk
    omega
   ·exact h3 q (by omega) hq2
  ·rintro ⟨h1,h2,h3⟩
   have h4:l.length < x.length:=by omega
   have h5:=h3 l.length (Nat.le_refl _) (by omega)
   refine ⟨(x.getD l.length 0 - (lnB b l.length).lo).toNat,?_,?_⟩
   ·rw [List.mem_range]; unfold lnN; omega
   ·rw [ih _ _ (by simp; omega)]
    rw [List.length_append,List.length_singleton]
    refine ⟨h1,?_,fun q hq hq2=>h3 q (by omega) hq2⟩
    rw [take_succ x 0 h4,h2]
    congr 2; omega
theorem truths_in (hs:SoundB b) {x:List Int}:x ∈ truthsB b b.lines.length [] ↔ InLn b x:=by
 rw [truths_mem hs _ _ _ (by simp)]
 unfold InLn
 simp
def refSo (b:Book) (c:Int) (L:List (List Int)) (n:Nat):Nat:=((L.take n).filter fun l=>isIn (bestB b l).1 c).length
theorem refSo_succ (b:Book) (c:Int) (L:List (List Int)) {n:Nat} (h:n < L.length):refSo b c L (n + 1)=refSo b c L n + if isIn (bestB b (L.getD n [])).1 c then 1 else 0:=by
 unfold refSo
 rw [take_succ L [] h,List.filter_append,List.length_append,List.filter_cons]
 split <;> rfl
theorem refSo_le (b:Book) (c:Int) (L:List (List Int)) (n:Nat):refSo b c L n<=n:=by
 unfold refSo; exact Nat.le_trans (List.length_filter_le _ _) (by rw [List.length_take]; omega)
theorem filter_none {α:Type} {p:α->Bool} {l:List α}:(l.filter p).length=0 ↔ ∀ x,x ∈ l->p x=false:=by
 rw [List.length_eq_zero_iff,List.filter_eq_nil_iff]
 exact forall_congr' fun x=>imp_congr_right fun _=>by simp
theorem filter_full {α:Type} {p:α->Bool} {l:List α}:(l.filter p).length=l.length ↔ ∀ x,x ∈ l->p x=true:=by
 constructor
 ·intro h
  have:=(List.filter_sublist (p:=p) (l:=l)).eq_of_length h
  intro x hx
  rw [← this] at hx
  exact (List.mem_filter.1 hx).2
 ·intro h; rw [List.filter_eq_self.2 h]
theorem buy_ref (hs:SoundB b) {c:Int} (hc:0<=c/\c < b.ctrs.length) {L:List (List Int)} (hL:L=truthsB b b.lines.length []):knownOf (refSo b c L L.length) L.length=buyB b c:=by
 have hb:∀ ls,isIn (boughtB b ls) c=isIn (bestB b ls).1 c:=by
  intro ls
  rw [Bool.eq_iff_iff,isIn_iff8,bought_mem]
  exact ⟨fun h=>h.2,fun h=>⟨hc,h⟩⟩
 have h0:(refSo b c L L.length=0) ↔ soTo b c (nTr b)=0:=by
  unfold refSo soTo
  rw [List.take_length,filter_none,filter_none]
  constructor
  ·intro h i hi
   rw [hb]
   exact h _ (by rw [hL]; exact (truths_in hs).2 (tr_in hs i))
  ·intro h x hx
   rw [hL] at hx
   obtain ⟨i,hi,e⟩:=tr_all hs ((truths_in hs).1 hx)
   have:=h i (List.mem_range.2 hi)
   rw [hb,e] at this; exact this
 have h1:(refSo b c L L.length=L.length) ↔ nTr b - soTo b c (nTr b)=0:=by
  have h2:nTr b - soTo b c (nTr b)=0 ↔ soTo b c (nTr b)=(List.range (nTr b)).length:=by
   have:=soTo_le b c (nTr b)
   rw [List.length_range]; omega
  rw [h2]
  unfold refSo soTo
  rw [List.take_length,filter_full,filter_full]
  constructor
  ·intro h i hi
   rw [hb]
   exact h _ (by rw [hL]; exact (truths_in hs).2 (tr_in hs i))
  ·intro h x hx
   rw [hL] at hx
   obtain ⟨i,hi,e⟩:=tr_all hs ((truths_in hs).1 hx)
   have:=h i (List.mem_range.2 hi)
   rw [hb,e] at this; exact this
 unfold knownOf buyB
 by_cases e0:refSo b c L L.length=0
 ·rw [if_pos (by omega),if_pos (h0.1 e0)]
 ·rw [if_neg (by omega),if_neg (fun h=>e0 (h0.2 h))]
  by_cases e1:refSo b c L L.length=L.length
  ·rw [if_pos (by omega),if_pos (h1.1 e1)]
  ·rw [if_neg (by omega),if_neg (fun h=>e1 (h1.2 h))]
end Go.Sh
namespace Go.Sh
open Go.Ab
section
variable {α:Type} [DecidableEq α]
def newAt (d:α) (l:List α) (i:Nat):Bool:=decide (i=0) || !decide (l.getD i d=l.getD (i - 1) d)
def cpTo (d:α) (l:List α) (n:Nat):List α:=((List.range n).filter (newAt d l)).map fun i=>l.getD i d
def cpL (d:α) (l:List α):List α:=cpTo d l l.length
theorem cpTo_t {d:α} {l:List α} {n:Nat} (h:newAt d l n=true):cpTo d l (n + 1)=cpTo d l n ++ [l.getD n d]:=by
 unfold cpTo; rw [List.range_succ,List.filter_append,List.map_append,List.filter_cons,if_pos h]; rfl
theorem cpTo_f {d:α} {l:List α} {n:Nat} (h:newAt d l n=false):cpTo d l (n + 1)=cpTo d l n:=by
 unfold cpTo; rw [List.range_succ,List.filter_append,List.map_append,List.filter_cons,if_neg (by rw [h]; simp)]; simp
theorem cpTo_len (d:α) (l:List α) (n:Nat):(cpTo d l n).length<=n:=by
 unfold cpTo; rw [List.length_map]; exact Nat.le_trans (List.length_filter_le _ _) (by rw [List.length_range]; omega)
theorem cpTo_first {d:α} {l:List α}:∀ {n:Nat},n<=l.length->(∀ j,j < n->newAt d l j=true)->cpTo d l n=l.take n:=by
 intro n
 induction n with
 | zero=>intro _ _; rfl
 | succ n ih=>intro h h1; rw [cpTo_t (h1 n (by omega)),ih (by omega) (fun j hj=>h1 j (by omega)),Go.Ab.take_succ _ d (by omega)]
theorem cpL_id {d:α} {l:List α} (h:∀ j,j < l.length->newAt d l j=true):cpL d l=l:=by
 unfold cpL; rw [cpTo_first (Nat.le_refl _) h,List.take_length]
def rowK (d:α) (l:List α) (n q:Nat):α:=if q < (cpTo d l n).length then (cpTo d l n).getD q d else l.getD q d
theorem rowK_far {d:α} {l:List α} {n q:Nat} (h:n<=q):rowK d l n q=l.getD q d:=by
 unfold rowK; rw [if_neg (by have:=cpTo_len d l n; omega)]
theorem rowK_past {d:α} {l:List α} {n q:Nat} (h:(cpTo d l n).length<=q):rowK d l n q=l.getD q d:=by
 unfold rowK; rw [if_neg (by omega)]
theorem rowK_f {d:α} {l:List α} {n:Nat} (h:newAt d l n=false) (q:Nat):rowK d l (n + 1) q=rowK d l n q:=by unfold rowK; rw [cpTo_f h]
theorem rowK_t {d:α} {l:List α} {n:Nat} (h:newAt d l n=true) (q:Nat):rowK d l (n + 1) q=if q=(cpTo d l n).length then l.getD n d else rowK d l n q:=by
 unfold rowK
 rw [cpTo_t h,List.length_append,List.length_singleton,Go.Ab.getD_append]
 by_cases h1:q < (cpTo d l n).length
 ·rw [if_pos (by omega),if_pos h1,if_neg (by omega),if_pos h1]
 ·by_cases h2:q=(cpTo d l n).length
  ·subst h2; rw [if_pos (by omega),if_neg h1,if_pos rfl,Nat.sub_self]; rfl
  ·rw [if_neg (by omega),if_neg h2,if_neg h1]
theorem newAt_pos {d:α} {l:List α} {i:Nat} (h:0 < i):newAt d l i = !decide (l.getD i d=l.getD (i - 1) d):=by
 unfold newAt; rw [decide_eq_false (by omega)]; rfl
theorem cp_sort {d:α} {l:List α} {lt:α->α->Prop} (tr:∀ a b c,lt a b->lt b c->lt a c) (hs:∀ i j,i < j->j < l.length->lt (l.getD i d) (l.getD j d) ∨ l.getD i d=l.getD j d):(cpL d l).Pairwise lt:=by
 unfold cpL cpTo
 rw [List.pairwise_map]
 have h1:((List.range l.length).filter (newAt d l)).Pairwise (· < ·):=List.pairwise_lt_range.filter _
 refine h1.imp_of_mem fun {i j} hi hj hij => ?_
 have hj':=List.mem_filter.1 hj
 have hl:=List.mem_range.1 hj'.1
 have hn:=hj'.2
 rw [newAt_pos (by omega)] at hn
 simp only [Bool.not_eq_true',decide_eq_false_iff_not] at hn
 have h2:lt (l.getD (j - 1) d) (l.getD j d):=by
  rcases hs (j - 1) j (by omega) hl with h | h
  ·exact h
  ·exact absurd h.symm hn
 by_cases e:i=j - 1
 ·rw [e]; exact h2
 ·rcases hs i (j - 1) (by omega) (by omega) with h | h
  ·exact tr _ _ _ h h2
  ·rw [h]; exact h2
theorem cp_mem {d:α} {l:List α} {x:α}:x ∈ cpL d l ↔ x ∈ l:=by
 unfold cpL cpTo
 rw [List.mem_map]
 constructor
 ·rintro ⟨i,hi,rfl⟩
  exact getD_mem l d (List.mem_range.1 (List.mem_filter.1 hi).1)
 ·intro hx
  obtain ⟨i,hi,e⟩:=List.getElem_of_mem hx
  rw [← getD_lt l d hi] at e
  induction i with
  | zero=>exact ⟨0,List.mem_filter.2 ⟨List.mem_range.2 hi,rfl⟩,e⟩
  | succ i ih =>
   cases h:newAt d l (i + 1) with
   | true=>exact ⟨i + 1,List.mem_filter.2 ⟨List.mem_range.2 hi,h⟩,e⟩
   | false =>
    rw [newAt_pos (by omega)] at h
    simp only [Bool.not_eq_false',decide_eq_true_eq] at h
    exact ih (by omega) (by rw [← e,h]; rfl)
end
def cmpD (x y:Sday):Int:=if x.day - y.day=0 then x.ad - y.ad else x.day - y.day
theorem cmp_lt {x y:Sday}:cmpD x y < 0 ↔ ltS x y:=by
 unfold cmpD ltS
 split <;> omega
theorem ltS_trans (a b c:Sday) (h1:ltS a b) (h2:ltS b c):ltS a c:=by unfold ltS at *; omega
theorem ltS_conn {a b:Sday} (h:¬ ltS b a):ltS a b ∨ a=b:=by
 unfold ltS at *
 by_cases e:a.day=b.day/\a.ad=b.ad
 ·right; cases a; cases b; simp only at e; rw [e.1,e.2]
 ·left; omega
abbrev sdG (l:List Sday) (i:Nat):Sday:=l.getD i default
def swL (l:List Sday) (j:Nat):List Sday:=(l.set j (sdG l (j - 1))).set (j - 1) (sdG l j)
def bub:Nat->List Sday->List Sday
 | 0,l=>l
 | j + 1,l=>if decide (cmpD (sdG l (j + 1)) (sdG l j) < 0) then bub j (swL l (j + 1)) else l
def insTo (l:List Sday):Nat->List Sday
 | 0=>l
 | n + 1=>bub (n + 1) (insTo l n)
theorem swL_len (l:List Sday) (j:Nat):(swL l j).length=l.length:=by simp [swL]
theorem swL_get {l:List Sday} {j q:Nat} (hj:0 < j) (hl:j < l.length) (hq:q < l.length):sdG (swL l j) q=if q=j then sdG l (j - 1) else if q=j - 1 then sdG l j else sdG l q:=by
 unfold sdG swL
 rw [getD_lt _ _ (by simpa using hq),List.getElem_set,List.getElem_set]
 by_cases h1:q=j
 ·subst h1; rw [if_neg (by omega),if_pos rfl,if_pos rfl]
 ·rw [if_neg h1]
  by_cases h2:q=j - 1
  ·rw [if_pos h2.symm,if_pos h2]
  ·rw [if_neg (fun h=>h2 h.symm),if_neg (fun h=>h1 h.symm),if_neg h2,getD_lt _ _ hq]
theorem swL_mem {l:List Sday} {j:Nat} (hj:0 < j) (hl:j < l.length) (x:Sday):x ∈ swL l j ↔ x ∈ l:=by
 have key:∀ m:List Sday,x ∈ m ↔ ∃ q,q < m.length/\sdG m q=x:=by
  intro m
  constructor
  ·intro h; obtain ⟨q,hq,e⟩:=List.getElem_of_mem h; exact ⟨q,hq,by unfold sdG; rw [getD_lt _ _ hq]; exact e⟩
  ·rintro ⟨q,hq,rfl⟩; exact getD_mem m _ hq
 rw [key,key,swL_len]
 constructor
 ·rintro ⟨q,hq,e⟩
  rw [swL_get hj hl hq] at e
  by_cases h1:q=j
  ·rw [if_pos h1] at e; exact ⟨j - 1,by omega,e⟩
  ·rw [if_neg h1] at e
   by_cases h2:q=j - 1
   ·rw [if_pos h2] at e; exact ⟨j,hl,e⟩
   ·rw [if_neg h2] at e; exact ⟨q,hq,e⟩
 ·rintro ⟨q,hq,e⟩
  by_cases h1:q=j
  ·subst h1; exact ⟨q - 1,by omega,by rw [swL_get hj hl (by omega),if_neg (by omega),if_pos rfl]; exact e⟩
  ·by_cases h2:q=j - 1
   ·subst h2; exact ⟨j,hl,by rw [swL_get hj hl hl,if_pos rfl]; exact e⟩
   ·exact ⟨q,hq,by rw [swL_get hj hl hq,if_neg h1,if_neg h2]; exact e⟩
theorem bub_len:∀ (j:Nat) (l:List Sday),(bub j l).length=l.length:=by
  intro j
  induction j with
  | zero=>intro l; rfl
  | succ j ih => intro l; rw [bub]; split; · rw [ih, swL_len]
                 · rfl
theorem bub_mem (x:Sday):∀ (j:Nat) (l:List Sday),j < l.length->(x ∈ bub j l ↔ x ∈ l):=by
 intro j
 induction j with
 | zero=>intro l _; rfl
 | succ j ih =>
  intro l h
  rw [bub]
  split
  ·rw [ih _ (by rw [swL_len]; omega),swL_mem (by omega) h]
  ·rfl
theorem leS_trans {a b c:Sday} (h1:ltS a b ∨ a=b) (h2:ltS b c ∨ b=c):ltS a c ∨ a=c:=by
 rcases h1 with h1 | rfl
 ·rcases h2 with h2 | rfl
  ·exact .inl (ltS_trans _ _ _ h1 h2)
  ·exact .inl h1
 ·exact h2
def InO (l:List Sday) (j n:Nat):Prop := ∀ p q,p < q->q < n->q ≠ j->ltS (sdG l p) (sdG l q) ∨ sdG l p=sdG l q
theorem bub_sort:∀ (j:Nat) (l:List Sday) (n:Nat),j < n->n<=l.length->InO l j n -> ∀ p q,p < q->q < n->ltS (sdG (bub j l) p) (sdG (bub j l) q) ∨ sdG (bub j l) p=sdG (bub j l) q:=by
 intro j
 induction j with
 | zero=>intro l n h1 h2 h p q hpq hq; exact h p q hpq hq (by omega)
 | succ j ih =>
  intro l n h1 h2 h p q hpq hq
  rw [bub]
  by_cases hc:cmpD (sdG l (j + 1)) (sdG l j) < 0
  ·rw [if_pos (by simpa using hc)]
   have hlt:=cmp_lt.1 hc
   refine ih _ n (by omega) (by rw [swL_len]; exact h2) (fun p q hpq hq hne => ?_) p q hpq hq
   have gp:=swL_get (l:=l) (j:=j + 1) (q:=p) (by omega) (by omega) (by omega)
   have gq:=swL_get (l:=l) (j:=j + 1) (q:=q) (by omega) (by omega) (by omega)
   rw [Nat.add_sub_cancel] at gp gq
   rw [gp,gq]
   by_cases e1:q=j + 1
   ·rw [if_pos e1,if_neg (by omega)]
    by_cases e2:p=j
    ·rw [if_pos e2]; exact .inl hlt
    ·rw [if_neg e2]; exact h p j (by omega) (by omega) (by omega)
   ·rw [if_neg e1,if_neg hne]
    by_cases e2:p=j + 1
    ·rw [if_pos e2]; exact h j q (by omega) hq e1
    ·rw [if_neg e2]
     by_cases e3:p=j
     ·rw [if_pos e3]; exact h (j + 1) q (by omega) hq e1
     ·rw [if_neg e3]; exact h p q hpq hq e1
  ·rw [if_neg (by simpa using hc)]
   by_cases e1:q=j + 1
   ·subst e1
    have h3:ltS (sdG l j) (sdG l (j + 1)) ∨ sdG l j=sdG l (j + 1):=ltS_conn fun h=>hc (cmp_lt.2 h)
    by_cases e2:p=j
    ·rw [e2]; exact h3
    ·exact leS_trans (h p j (by omega) (by omega) (by omega)) h3
   ·exact h p q hpq hq e1
theorem ins_len (l:List Sday):∀ n,(insTo l n).length=l.length:=by
 intro n
 induction n with
 | zero=>rfl
 | succ n ih=>rw [insTo,bub_len,ih]
theorem ins_mem (l:List Sday) (x:Sday):∀ n,n < l.length->(x ∈ insTo l n ↔ x ∈ l):=by
 intro n
 induction n with
 | zero=>intro _; rfl
 | succ n ih=>intro h; rw [insTo,bub_mem x _ _ (by rw [ins_len]; exact h),ih (by omega)]
theorem ins_sort (l:List Sday):∀ n,n < l.length -> ∀ p q,p < q->q < n + 1->ltS (sdG (insTo l n) p) (sdG (insTo l n) q) ∨ sdG (insTo l n) p=sdG (insTo l n) q:=by
 intro n
 induction n with
 | zero=>intro _ p q h1 h2; omega
 | succ n ih =>
  intro h
  rw [insTo]
  exact bub_sort (n + 1) (insTo l n) (n + 1 + 1) (by omega) (by rw [ins_len]; exact h) fun p q h1 h2 h3=>ih (by omega) p q h1 (by omega)
def sortD (l:List Sday):List Sday:=insTo l (l.length - 1)
theorem sortD_len (l:List Sday):(sortD l).length=l.length:=ins_len _ _
def rawD (b:Book):List Sday:=b.shown.map fun s=>⟨s.ad,s.day⟩
theorem cp_stds {b:Book} (hs:SoundB b):cpL default (sortD (rawD b))=stds b:=by
 have hne:∀ x,x ∈ sortD (rawD b) ↔ x ∈ rawD b:=by
  intro x
  unfold sortD
  rcases Nat.eq_zero_or_pos (rawD b).length with h | h
  ·rw [h]; rfl
  ·exact ins_mem _ _ _ (by omega)
 have hsr:(cpL default (sortD (rawD b))).Pairwise ltS:=by
  refine cp_sort ltS_trans fun i j hij hj => ?_
  rw [sortD_len] at hj
  exact ins_sort (rawD b) ((rawD b).length - 1) (by omega) i j hij (by omega)
 have hm:∀ x,x ∈ cpL default (sortD (rawD b)) ↔ x ∈ stds b:=by
  intro x
  rw [cp_mem,hne,std_mem]
  unfold rawD stoodB
  rw [List.mem_map,List.any_eq_true]
  constructor
  ·rintro ⟨s,h,rfl⟩
   obtain ⟨i,hi,e⟩:=List.getElem_of_mem h
   have h1:=hs.show_ i hi
   unfold shB at h1
   rw [getD_lt _ _ hi,e] at h1
   refine ⟨⟨by simp only; omega,by simp only; omega⟩,⟨by simp only; omega,by simp only; omega⟩,s,h,by simp⟩
  ·rintro ⟨_,_,s,h,hd⟩
   simp only [Bool.and_eq_true,decide_eq_true_eq] at hd
   exact ⟨s,h,by cases x; simp only at hd; rw [hd.1,hd.2]⟩
 refine List.Perm.eq_of_pairwise (le:=ltS) (fun x y _ _ h1 h2=>absurd (ltS_trans _ _ _ h1 h2) (ltS_irr x)) hsr std_sort ?_
 refine (List.perm_ext_iff_of_nodup ?_ std_nodup).2 hm
 exact hsr.imp fun {a c} h e=>by subst e; exact ltS_irr _ h
theorem sortI_pair (l:List Int):∀ i j,i < j->j < (sortI l).length->(sortI l).getD i 0 < (sortI l).getD j 0 ∨ (sortI l).getD i 0=(sortI l).getD j 0:=by
 intro i j hij hj
 have h:=List.pairwise_mergeSort (le:=fun x y:Int=>decide (x<=y)) (fun a b c h1 h2=>by simp only [decide_eq_true_eq] at *; omega) (fun a b=>by simp only [Bool.or_eq_true,decide_eq_true_eq]; omega) l
 have h2:=List.pairwise_iff_getElem.1 h i j (by unfold sortI at hj; omega) hj hij
 rw [getD_lt _ _ (by omega),getD_lt _ _ hj]
 simp only [decide_eq_true_eq] at h2
 unfold sortI
 omega
theorem cp_bought {b:Book} {ls:List Int} (hs:SoundB b) (hl:GoodLn b ls):cpL 0 (sortI ((bestB b ls).1.filter fun y => !decide (y = -1)))=boughtB b ls:=by
 refine bought_ext hs hl (cp_sort (fun a b c h1 h2=>by omega) (sortI_pair _)) fun x => ?_
 rw [cp_mem]
 unfold sortI
 rw [List.mem_mergeSort,List.mem_filter]
 simp
end Go.Sh
