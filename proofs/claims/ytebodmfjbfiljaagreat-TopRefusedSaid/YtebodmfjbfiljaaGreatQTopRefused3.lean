/- Part 3 of the proof: own library, plain forms and walks. -/
import Derived.Test.YtebodmfjbfiljaaGreatQTopRefused2
import Derived.Shelf.Sort.Plain
import Derived.Shelf.Slices.In.SortNone
import Derived.Test.YtebodmfjbfiljaaGreatProg
import Derived.Sort.Grow
import Derived.Lib.SlicesCompact
set_option linter.all false
set_option linter.deprecated false
namespace Go.Ab
open Go Go.RowKit
theorem JpF (v:AV):rnK [] v=v:=by cases v <;> rfl
theorem Jmg (v:AV):rnC [] v=v:=by
 cases v with
 | clo f cs=>show AV.clo f (cs.map (rnK []))=_; rw [List.map_congr_left (fun v _=>JpF v),List.map_id']
 | _=>rfl
theorem JeM (cs:List AV):cs.map (rnC [])=cs:=by rw [List.map_congr_left (fun v _=>Jmg v),List.map_id']
theorem Jmh (v:AV):rnV [] v=v:=by
 cases v with
 | agg cs=>simp only [rnV,JeM]
 | clo f cs=>simp only [rnV,JeM]
 | _=>first | rfl | (simp only [rnV,Jmg])
theorem Jmi (ob:OB):rnB [] ob=ob:=by
 cases ob with
 | cells t cs=>simp only [rnB,JeM]
 | vecx t sz n f j fj=>simp only [rnB,JeM]
 | _=>rfl
def RndK (C:Ctx) (nt:Nat) (hout:List (Nat × OB)):AX->ASt->Prop
 | .normal,st => ∃ st2,Ent C nt st st2/\hoIn st2.hp hout
 | _,_=>False
def AsgK (P:Program) (N nt:Nat) (body:Code) (hout:List (Nat × OB)):AX->ASt->Prop
 | .normal,st => ∀ C:Ctx,C.P=P->(∀ j,N<=j->C.E0.blk j=none/\C.E0.hdr j=none)->SWP C nt body (RndK C nt hout) st
 | _,_=>False
def Jo7 (s:CallSpec) (tm:List (Nat × AV)) (N:Nat):Bool :=
 Jbd (s.hin.map (·.1)) && tm.all (fun p=>kV (s.hin.map (·.1)) p.2) && s.hin.all (fun p=>kB (s.hin.map (·.1)) p.2 && decide (p.1 < N)) && s.hout.all (fun p=>kB (s.hout.map (·.1)) p.2) &&
 (match s.args with | [A]=>kV (s.hin.map (·.1)) A | _=>false) && (match s.res with | .lit (.bool true)=>true | _=>false)
theorem JjM {p:AV->Bool} (hp:p .any=true):∀ {tm:List (Nat × AV)},tm.all (fun q=>p q.2)=true -> ∀ t,p (look tm t)=true:=by
 intro tm
 induction tm with
 | nil=>intro _ t; exact hp
 | cons q r ih =>
  intro h t
  simp only [List.all_cons,Bool.and_eq_true] at h
  simp only [look]
  split
  ·exact h.1
  ·exact ih h.2 t
theorem Jo8 {P:Program} {E1:Env} {nt l p:Nat} {rec:Loop} {assign body:Code} {a:Act} {tm:List (Nat × AV)} {s:CallSpec} (N:Nat) (hl:E1.M l=some (.loop rec)) (hrs:rec.state = .ready) (hrp:rec.pending=none) (hrt:rec.tmps=a.tmps) (hrps:rec.params = #[p])
  (hra:rec.assign=assign) (hrb:rec.body=body) (hsz:a.tmps.size=nt) (hp:p < nt) (htm:∀ t,Rel E1 true (look tm t) (a.tmps.getD t undef)) (hok:Jo7 s tm N=true)
  (hbody:s.pre -> ∀ C:Ctx,C.P=P->(∀ j,N<=j->C.E0.blk j=none/\C.E0.hdr j=none)->SWP C nt assign (AsgK P N nt body s.hout) ⟨(p,s.args.headD .any) :: tm,s.hin,N⟩) :
  FnIO P E1 (.func (.yield l) #[] #[]) s:=by
 intro hpre E2 w vs le hh hlen hrel hfresh
 simp only [Jo7,Bool.and_eq_true,List.all_eq_true,decide_eq_true_eq] at hok
 obtain ⟨⟨⟨⟨⟨o1,o2⟩,o3⟩,o4⟩,o5⟩,o6⟩:=hok
 obtain ⟨A,hA,hkA⟩:∃ A,s.args = [A]/\kV (s.hin.map (·.1)) A=true:=by
  split at o5
  ·rename_i A e; exact ⟨A,e,o5⟩
  ·cases o5
 have hres:s.res = .lit (.bool true):=by
  split at o6
  ·assumption
  ·cases o6
 rw [hA] at hlen hrel hbody
 obtain ⟨v,rfl⟩:∃ v,vs = [v]:=by
  match vs,hlen with
  | [v],_=>exact ⟨v,rfl⟩
 have hl2:E2.M l=some (.loop rec):=le.M _ _ hl
 have hlw:w.heap[l]? = some (.loop rec):=hh.mem _ _ hl2
 have hlt:l < w.heap.size:=(Array.getElem?_eq_some_iff.1 hlw).1
 have hy:=run_yield (P:=P) (args := #[v]) hlw (by rw [hrps]; rfl)
 rw [hrps,hrt,hra,hrb] at hy
 have hy':(Instr.yield l #[v]).run P w = .ok (.round l rec.fn (a.tmps.setIfInBounds p v) assign body) w:=by simpa using hy
 refine ⟨l,rfl,rec.fn,a.tmps.setIfInBounds p v,assign,body,hy',roundIn_of_wpIn trivial ?_⟩
 -- names: of what is handed in alone
 let ks:=s.hin.map (·.1)
 let E0:Env:={ E2 with blk:=fun j=>if j ∈ ks then E2.blk j else none,hdr:=fun j=>if j ∈ ks then E2.hdr j else none }
 have hs0:∀ c,c ∈ ks->E2.blk (renI [] c)=E0.blk c/\E2.hdr (renI [] c)=E0.hdr c:=fun c hc=>⟨(if_pos hc).symm,(if_pos hc).symm⟩
 have hmem:∀ {i:Nat} {ob:OB},Heap.of s.hin i=some ob->i ∈ ks:=fun h=>List.mem_map_of_mem (f:=fun x:Nat × OB=>x.1) (Heap.of_mem h)
 let av:=(Jat P E2 w s.hin).avail
 let CA:Ctx:=⟨P,w,E0,av,fun _ h => .inl h,some l,false⟩
 have hokA:HeapOK CA E0 (Heap.of s.hin) w:=by
  refine ⟨rfl,rfl,rfl,Nat.le_refl _,fun _ _=>rfl,fun b o h=>hh.mem b o h,Env.le.refl _,fun b o h => .inl h,fun i ob h => ?_,fun i j x hij hi hj hix hjx => ?_⟩
  ·have ho:=hh.own i ob h
   refine Jmb (C:=Jat P E2 w s.hin) (C':=CA) (E:=E0) (F:=E2) (l:=[]) rfl rfl hs0 (fun _ h=>h) (hmem h) (o3 _ (Heap.of_mem h)).1 ?_
   rw [Jmi]; exact ho
  ·have get:∀ i,Heap.of s.hin i ≠ none->i ∈ ks:=fun i h=>by
    cases e:Heap.of s.hin i with
    | none=>exact absurd e h
    | some ob=>exact hmem e
   exact hh.sep i j x hij hi hj (by rw [← hix]; exact (hs0 i (get i hi)).1) (by rw [← hjx]; exact (hs0 j (get j hj)).1)
 have hnone:∀ j,N<=j->E0.blk j=none/\E0.hdr j=none:=by
  intro j hj
  have:¬ j ∈ ks:=fun h=>by
   obtain ⟨q,hq,rfl⟩:=List.mem_map.1 h
   have:=(o3 q hq).2; omega
  exact ⟨if_neg this,if_neg this⟩
 have htmA:∀ t,Rel E0 true (look ((p,A) :: tm) t) ((a.tmps.setIfInBounds p v).getD t undef):=by
  intro t
  simp only [look]
  by_cases e:p=t
  ·subst e
   rw [if_pos rfl]
   have:(a.tmps.setIfInBounds p v).getD p undef=v:=by simp [Array.getD_eq_getD_getElem?,hsz,hp]
   rw [this]
   refine Jja (E:=E0) (F:=E2) (l:=[]) rfl rfl hs0 hkA ?_
   rw [Jmh]; exact hrel 0
  ·rw [if_neg e]
   have:(a.tmps.setIfInBounds p v).getD t undef=a.tmps.getD t undef:=by simp [Array.getD_eq_getD_getElem?,Array.getElem?_setIfInBounds_ne e]
   rw [this]
   refine Jja (E:=E0) (F:=E2) (l:=[]) rfl rfl hs0 (JjM (p:=kV ks) rfl (by rw [List.all_eq_true]; exact o2) t) ?_
   rw [Jmh]; exact (htm t).mono le
 have hsat:Sat CA E0 nt ⟨(p,A) :: tm,s.hin,N⟩ w { tmps:=a.tmps.setIfInBounds p v,defers:=[] }:=⟨⟨hokA,htmA,⟨fun _=>rfl,trivial⟩,by simp [hsz]⟩,fun j hj=>hnone j hj⟩
 have hsw:=hbody hpre CA rfl hnone E0 w _ hsat
 refine wpIn_mono (F:=Fence.wide.inRound l) hsw ?_
 rintro e a1 w1 ⟨x,E3,st3,rfl,hs3,hk3⟩
 cases x with
 | ret=>exact hk3.elim
 | exit id=>exact hk3.elim
 | normal =>
  have hE03:=hs3.ok.heap.le
  have hl3:E3.M l=some (.loop rec):=hE03.M _ _ hl2
  have hlw1:w1.heap[l]? = some (.loop rec):=hs3.ok.heap.mem _ _ hl3
  refine ⟨_,run_beginRound hlw1 hrs,?_⟩
  -- the body's context: the record is busy
  let busy:Obj := .loop { rec with state := .busy }
  let EB0:Env:={ E0 with M:=fun b=>if b=l then some busy else E0.M b }
  let EB:Env:={ E3 with M:=fun b=>if b=l then some busy else E3.M b }
  let CB:Ctx:=⟨P,w,EB0,fun b=>av b ∨ b=l,fun _ h => .inl (.inl h),some l,false⟩
  have hleB:EB0.le EB:=⟨fun b o hb=>by
    replace hb:(if b=l then some busy else E0.M b)=some o:=hb
    show (if b=l then some busy else E3.M b)=some o
    split at hb
    ·rw [if_pos ‹_›]; exact hb
    ·rw [if_neg ‹_›]; exact hE03.M _ _ hb,hE03.blk,hE03.hdr,hE03.fns⟩
  have hokB:HeapOK CB EB (Heap.of st3.hp) (w1.putObj l busy):=by
   refine hs3.ok.heap.putL (C2:=CB) (m:=some busy) hl3 rfl (.inr rfl) rfl rfl rfl rfl rfl rfl (fun _ h => .inl h) (fun b hb => ?_) hleB (fun b o hb => ?_)
   ·have hne:b ≠ l:=fun e=>hb (.inr e)
    rw [World.putObj_heap_other hne]
    exact hs3.ok.heap.pres b (fun h=>hb (.inl h))
   ·replace hb:(if b=l then some busy else E3.M b)=some o:=hb
    split at hb
    ·rename_i e; exact .inr (.inr e)
    ·rename_i e
     rcases hs3.ok.heap.ext b o hb with h | h
     ·exact .inl (by show (if b=l then some busy else E0.M b)=some o; rw [if_neg e]; exact h)
     ·exact .inr (.inl h)
  have hleC:E3.leC EB:=⟨fun b o hb hc=>by
    show (if b=l then some busy else E3.M b)=some o
    rw [if_neg (fun e=>by rw [e,hl3] at hb; cases hb; cases hc)]; exact hb,fun _ _ h=>h,fun _ _ h=>h,rfl⟩
  have hsatB:Sat CB EB nt st3 (w1.putObj l busy) a1:=⟨⟨hokB,fun t=>(hs3.ok.tm t).monoC hleC,⟨fun _=>hs3.ok.defers.1 rfl,by rw [hs3.ok.defers.1 rfl]; trivial⟩,hs3.ok.size⟩,hs3.fresh⟩
  have hswB:=hk3 CB rfl hnone EB _ a1 hsatB
  refine wpIn_mono (F:=Fence.wide.inRound l) hswB ?_
  rintro e a4 w4 ⟨x,E4,st4,rfl,hs4,hk4⟩
  cases x with
  | ret=>exact hk4.elim
  | exit id=>exact hk4.elim
  | normal =>
   obtain ⟨st5,hent,hho⟩:=hk4
   obtain ⟨E5,hs5⟩:=hent E4 w4 a4 hs4
   have hle5:=hs5.ok.heap.le
   have hl5:E5.M l=some busy:=hle5.M l busy (if_pos rfl)
   have hlw4:w4.heap[l]? = some busy:=hs5.ok.heap.mem _ _ hl5
   have hend:=run_endRound (P:=P) none hlw4
   have hback:({ { rec with state:=LoopState.busy } with state:=(if (none:Option Code).isNone=true then LoopState.ready else LoopState.done),pending:=none }:Loop)=rec:=by
    cases rec; simp only at hrs hrp; subst hrs; subst hrp; rfl
   rw [hback] at hend
   refine ⟨_,_,hend,?_⟩
   -- back to the names of the call
   let F0:Env:={ E5 with M:=fun b=>if b=l then some (.loop rec) else E5.M b }
   let C3:Ctx:=⟨P,w,E0,av,fun _ h => .inl h,some l,false⟩
   have hle0:E0.le F0:=⟨fun b o hb=>by
     show (if b=l then some (.loop rec) else E5.M b)=some o
     by_cases e:b=l
     ·rw [if_pos e]
      have:E0.M b=some (.loop rec):=by rw [e]; exact hl2
      rw [← this]; exact hb
     ·rw [if_neg e]
      exact hle5.M b o (by show (if b=l then some busy else E0.M b)=some o; rw [if_neg e]; exact hb),hle5.blk,hle5.hdr,hle5.fns⟩
   have hok6:HeapOK C3 F0 (Heap.of st5.hp) (w4.putObj l (.loop rec)):=by
    have hswap:=hs5.ok.heap.putL (C2:={ CB with E0:={ EB0 with M:=fun b=>if b=l then some (.loop rec) else E0.M b } }) (E2:=F0) (o' := .loop rec) (m:=some (.loop rec)) hl5 rfl (.inr rfl) rfl rfl rfl rfl rfl rfl (fun _ h=>h) (fun b hb => ?_) ⟨fun b o hb => ?_,hle0.blk,hle0.hdr,hle0.fns⟩ (fun b o hb => ?_)
    ·refine ⟨hswap.os,hswap.tape,hswap.output,hswap.size,fun b hb => ?_,hswap.mem,hle0,fun b o hb => ?_,fun i ob hi => ?_,hswap.sep⟩
     ·by_cases e:b=l
      ·rw [e,World.putObj_heap_same (Array.getElem?_eq_some_iff.1 hlw4).1]; exact hlw.symm
      ·exact hswap.pres b (fun h=>h.elim hb e)
     ·replace hb:(if b=l then some (.loop rec) else E5.M b)=some o:=hb
      split at hb
      ·rename_i e; exact .inl (by rw [e]; show E2.M l=some o; rw [hl2]; exact hb)
      ·rename_i e
       rcases hs5.ok.heap.ext b o hb with h | h
       ·replace h:(if b=l then some busy else E0.M b)=some o:=h
        rw [if_neg e] at h; exact .inl h
       ·exact .inr (h.resolve_right e)
     ·have ho:=hswap.own i ob hi
      -- no block of the call's own is the record
      refine ho.moveAv (fun k hk => ?_)
      rcases hk with ⟨hav,hM⟩
      refine hav.resolve_right (fun e => ?_)
      rw [e] at hM
      replace hM:(if l=l then some (.loop rec) else E5.M l)=(none:Option Obj):=hM
      rw [if_pos rfl] at hM; cases hM
    ·have hne:b ≠ l:=fun e=>hb (.inr e)
     rw [World.putObj_heap_other hne]
     exact hs5.ok.heap.pres b hb
    ·replace hb:(if b=l then some (.loop rec) else E0.M b)=some o:=hb
     by_cases e:b=l
     ·rw [if_pos e] at hb; show (if b=l then some (.loop rec) else E5.M b)=some o; rw [if_pos e]; exact hb
     ·rw [if_neg e] at hb; exact hle0.M b o hb
    ·replace hb:(if b=l then some (.loop rec) else E5.M b)=some o:=hb
     split at hb
     ·rename_i e; exact .inr (.inr e)
     ·rename_i e
      rcases hs5.ok.heap.ext b o hb with h | h
      ·replace h:(if b=l then some busy else E0.M b)=some o:=h
       rw [if_neg e] at h
       exact .inl (by show (if b=l then some (.loop rec) else E0.M b)=some o; rw [if_neg e]; exact h)
      ·exact .inr h
   let ko:=s.hout.map (·.1)
   let F:Env:={ F0 with blk:=fun j=>if j ∈ ko then F0.blk j else E2.blk j,hdr:=fun j=>if j ∈ ko then F0.hdr j else E2.hdr j }
   have hren:Rn [] ko F0 F:=⟨fun b o h=>h,rfl,fun c hc=>⟨if_pos hc,if_pos hc⟩⟩
   have hin0:∀ j k,E2.blk j=some k->j ∈ ko->F0.blk j=some k:=by
    intro j k hj hjo
    by_cases hi:j ∈ ks
    ·exact hle0.blk j k (by show (if j ∈ ks then E2.blk j else none)=some k; rw [if_pos hi]; exact hj)
    ·obtain ⟨q,hq,rfl⟩:=List.mem_map.1 hjo
     have:=(hfresh q hq (fun r hr e=>hi (by rw [← e]; exact List.mem_map_of_mem (f:=fun x:Nat × OB=>x.1) hr))).1
     rw [this] at hj; cases hj
   have hin1:∀ j u,E2.hdr j=some u->j ∈ ko->F0.hdr j=some u:=by
    intro j u hj hjo
    by_cases hi:j ∈ ks
    ·exact hle0.hdr j u (by show (if j ∈ ks then E2.hdr j else none)=some u; rw [if_pos hi]; exact hj)
    ·obtain ⟨q,hq,rfl⟩:=List.mem_map.1 hjo
     have:=(hfresh q hq (fun r hr e=>hi (by rw [← e]; exact List.mem_map_of_mem (f:=fun x:Nat × OB=>x.1) hr))).2
     rw [this] at hj; cases hj
   have lF:E2.le F:=by
    refine ⟨fun b o hb=>hle0.M b o hb,fun j k hj => ?_,fun j u hj => ?_,hle0.fns⟩
    ·show (if j ∈ ko then F0.blk j else E2.blk j)=some k
     split
     ·exact hin0 j k hj ‹_›
     ·exact hj
    ·show (if j ∈ ko then F0.hdr j else E2.hdr j)=some u
     split
     ·exact hin1 j u hj ‹_›
     ·exact hj
   refine ⟨.bool true,F,rfl,?_,by rw [hres]; exact .lit _,fun j hj => ?_⟩
   ·refine ⟨hok6.os,hok6.tape,hok6.output,hok6.size,fun x hx=>hok6.pres x hx,fun x o h=>hok6.mem x o h,lF,fun x o h=>hok6.ext x o h,fun i ob hi => ?_,fun i j y hij hi hj hiy hjy => ?_⟩
    ·have hm:=Heap.of_mem hi
     have hc:i ∈ ko:=List.mem_map_of_mem (f:=fun x:Nat × OB=>x.1) hm
     have:=Jmc (C:=C3) (C':=Jat P E2 w s.hin) hren (fun _ h=>h) (fun _ h=>h) hc (o4 _ hm) (hok6.own i ob (JcP hho _ hm))
     rw [Jmi] at this
     exact this
    ·have get:∀ i,Heap.of s.hout i ≠ none->F.blk i=some y->Heap.of st5.hp i ≠ none/\F0.blk i=some y:=by
      intro i hi hiy
      cases e:Heap.of s.hout i with
      | none=>exact absurd e hi
      | some ob =>
       have hm:=Heap.of_mem e
       have hc:i ∈ ko:=List.mem_map_of_mem (f:=fun x:Nat × OB=>x.1) hm
       refine ⟨by rw [JcP hho _ hm]; simp,?_⟩
       replace hiy:(if i ∈ ko then F0.blk i else E2.blk i)=some y:=hiy
       rw [if_pos hc] at hiy; exact hiy
     obtain ⟨n1,k1⟩:=get i hi hiy
     obtain ⟨n2,k2⟩:=get j hj hjy
     exact hok6.sep i j y hij n1 n2 k1 k2
   ·have hno:j ∉ ko:=fun h=>by
     obtain ⟨q,hq,e⟩:=List.mem_map.1 h
     exact hj q hq e
    exact ⟨if_neg hno,if_neg hno⟩
def RngK (C:Ctx) (nt:Nat) (hp:List (Nat × OB)) (nx:Nat):AX->ASt->Prop
 | .exit _,_=>False
 | _,st => ∃ st2,Ent C nt st st2/\hoIn st2.hp hp/\st2.nx<=nx
theorem Jh4 {w:World} {o1 o2:Obj} {k:Nat} (h:k < w.heap.size):((w.alloc o1).alloc o2).heap[k]? = w.heap[k]? := by
 rw [(World.grownBy_alloc (w.alloc o1) o2 none).block k (by simp; omega) (by simp)]
 exact (World.grownBy_alloc w o1 none).block k h (by simp)
theorem Jmj {C:Ctx} {nt:Nat} {K:AX->ASt->Prop} {st:ASt} {g:Operand} {p:Tmp} {assign body:Code} {gf:FuncId} {caps:List AV} {fn:Func} {c:Code}
  (hp2:List (Nat × OB)) (nx2 kf N:Nat) (kt:List Nat) (R:CallSpec->Prop) (hro:C.ro=none) (hdf:C.df=true) (hg:opAV (look st.tm) g = .clo gf caps) (hf:C.P.funcs[gf]? = some fn) (hb:fn.body=some c) (hrs:fn.results = #[]) (hcall:JbS C.P gf)
  (hn:caps.length + 1<=fn.ntmps) (hp:p < nt) (hno:(Jd4 caps && (kt.all fun t=>noFn (look st.tm t)) && (st.hp.all fun q=>Jdu q.2) && hp2.all fun q=>Jdu q.2)=true)
  (hR:∀ s,R s->Jo7 s (kt.map fun t=>(t,look st.tm t)) N=true)
  (hit:∀ C':Ctx,C'.P=C.P->(∀ s,R s -> ∀ u,C'.E0.fns kf u->FnIO C.P C'.E0 u s)->(∀ j,st.nx<=j->C'.E0.blk j=none/\C'.E0.hdr j=none)->SWP C' fn.ntmps c (RngK C' fn.ntmps hp2 nx2) ⟨JbH (.fn kf :: caps) 0,st.hp,st.nx⟩)
  (hbody:∀ s,R s->s.pre -> ∀ C':Ctx,C'.P=C.P->(∀ j,N<=j->C'.E0.blk j=none/\C'.E0.hdr j=none)->SWP C' nt assign (AsgK C.P N nt body s.hout) ⟨(p,s.args.headD .any) :: (kt.map fun t=>(t,look st.tm t)),s.hin,N⟩)
  (hk:K .normal ⟨st.tm,hp2,nx2⟩):SWP C nt (.rangeFunc g #[p] assign body) K st:=by
 intro E w a hs
 simp only [Bool.and_eq_true] at hno
 obtain ⟨⟨⟨hnoc,hnot⟩,hnoh⟩,hnoh2⟩:=hno
 rw [List.all_eq_true] at hnot hnoh hnoh2
 have hgr:=JdT hs.ok.tm g
 simp only at hgr
 rw [hg] at hgr
 generalize hge:a.eval g=uf at hgr
 cases hgr with
 | clo _ hcl hcr =>
 rename_i us
 refine wpIn_rangeFunc ?_
 intro fnid _
 have hh:=hs.ok.heap
 let D:=w.heap.size
 let rec':Loop:={ state := .ready,pending:=none,fn:=fnid,tmps:=a.tmps,params := #[p],assign,body,defers:=D }
 let W1:World:=(w.alloc (.deferred (some []))).alloc (.loop rec')
 let yv:Value := .func (.yield (D + 1)) #[] #[]
 let E':Env:={ E with M:=fun b=>if b=D then some (.deferred (some [])) else if b=D + 1 then some (.loop rec') else E.M b }
 let E1:Env:=E'.setFns (fun k u=>k=kf/\u=yv)
 let C1:Ctx:=⟨C.P,C.w0,E1,C.avail,C.hA,none,false⟩
 have hMlt:∀ b o,E.M b=some o->b < D:=fun b o h=>(Array.getElem?_eq_some_iff.1 (hh.mem b o h)).1
 have hE'M:∀ b,b < D->E'.M b=E.M b:=fun b hb=>by
  show (if b=D then some (.deferred (some [])) else if b=D + 1 then some (.loop rec') else E.M b)=E.M b
  rw [if_neg (by omega),if_neg (by omega)]
 have hMD:E'.M D=some (.deferred (some [])):=if_pos rfl
 have hML:E'.M (D + 1)=some (.loop rec'):=by
  show (if D + 1=D then some (.deferred (some [])) else if D + 1=D + 1 then some (.loop rec') else E.M (D + 1))=_
  rw [if_neg (by omega),if_pos rfl]
 have leE:E.le E':=⟨fun b o h=>by rw [hE'M b (hMlt b o h)]; exact h,fun _ _ h=>h,fun _ _ h=>h,rfl⟩
 have hWD:W1.heap[D]? = some (.deferred (some [])):=(World.grownBy_alloc (w.alloc _) _ none).block D (by simp [D]) (by simp) |>.trans (World.alloc_heap_new w _)
 have hWL:W1.heap[D + 1]? = some (.loop rec'):=by
  have:=World.alloc_heap_new (w.alloc (.deferred (some []))) (.loop rec')
  rwa [World.size_alloc] at this
 have hok1:HeapOK C1 E1 (Heap.of st.hp) W1:=by
  refine ⟨hh.os,hh.tape,hh.output,?_,fun b hb => ?_,fun b o hb => ?_,Env.le.refl _,fun b o hb => .inl hb,fun i ob hi => ?_,hh.sep⟩
  ·show C.w0.heap.size<=((w.alloc _).alloc _).heap.size
   simp only [World.size_alloc]
   exact Nat.le_trans hh.size (by omega)
  ·have hlt:b < w.heap.size:=Nat.lt_of_not_le fun hle=>hb (C.hA b (Nat.le_trans hh.size hle))
   rw [Jh4 hlt]; exact hh.pres b hb
  ·replace hb:(if b=D then some (.deferred (some [])) else if b=D + 1 then some (.loop rec') else E.M b)=some o:=hb
   split at hb
   ·rename_i e; rw [e,hWD]; exact hb
   ·split at hb
    ·rename_i e; rw [e,hWL]; exact hb
    ·rw [Jh4 (hMlt b o hb)]; exact hh.mem b o hb
  ·have hnf:=hnoh _ (Heap.of_mem hi)
   have ho:=hh.own i ob hi
   refine ho.move (C':=C1) (E':=E1) (.inr hnf) (fun _ _ h=>h) (fun b o h=>leE.M b o h) rfl (fun _ h=>h) (fun k hk=>Jh4 (JbJ.blk_lt hh.mem ho hk)) (fun k hk hm => ?_) (fun o cs us hr=>⟨⟨fun t e => ?_,fun t sz n f j e => ?_⟩,fun e => ?_⟩)
   ·show E'.M k=none
    rw [hE'M k (JbJ.blk_lt hh.mem ho hk)]; exact hm
   ·have e':ob = .cells t cs:=e
    rw [e'] at hnf
    exact (hr.mono leE).setFns _ (fun _=>hnf)
   ·have e':ob = .vecx t sz n f j cs:=e
    rw [e'] at hnf
    exact (hr.mono leE).setFns _ (fun _=>hnf)
   ·exact (hr.mono leE).setFns _ (fun e'=>by rw [e] at e'; cases e')
 let all:List Value:=yv :: us
 have htm1:∀ t,Rel E1 true (look (JbH (.fn kf :: caps) 0) t) ((all.toArray ++ Array.replicate (fn.ntmps - all.toArray.size) undef).getD t undef):=by
  intro t
  rw [Jdb,if_pos (Nat.zero_le _),Nat.sub_zero]
  rcases Nat.lt_or_ge t all.length with ht | ht
  ·have h1:(all.toArray ++ Array.replicate (fn.ntmps - all.toArray.size) undef).getD t undef=all.getD t undef:=by
    simp only [Array.getD_eq_getD_getElem?,List.getD_eq_getElem?_getD]
    rw [Array.getElem?_append_left (by simpa using ht)]
    simp
   rw [h1]
   cases t with
   | zero=>exact .fn kf ⟨rfl,rfl⟩
   | succ t=>exact ((hcr t).mono leE).setFns _ (fun _=>JdR hnoc t)
  ·rw [List.getD_eq_getElem?_getD,List.getElem?_eq_none (by simp only [List.length_cons]; simp only [all,List.length_cons] at ht; omega)]
   exact .any _
 have hsat1:Sat C1 E1 fn.ntmps ⟨JbH (.fn kf :: caps) 0,st.hp,st.nx⟩ W1 { tmps:=all.toArray ++ Array.replicate (fn.ntmps - all.toArray.size) undef,defers:=[] } :=
  ⟨⟨hok1,htm1,⟨fun _=>rfl,trivial⟩,by simp [all,hcl]; omega⟩,hs.fresh⟩
 have hfn:∀ s,R s -> ∀ u,C1.E0.fns kf u->FnIO C.P C1.E0 u s:=by
  rintro s hRs u ⟨_,rfl⟩
  refine Jo8 (E1:=E1) (l:=D + 1) (rec:=rec') (a:=a) (tm:=kt.map fun t=>(t,look st.tm t)) N hML rfl rfl rfl rfl rfl rfl hs.ok.size hp (fun t => ?_) (hR s hRs) (hbody s hRs)
  have hkeep:noFn (look (kt.map fun t=>(t,look st.tm t)) t)=true:=JjM (p:=noFn) rfl (by rw [List.all_eq_true]; intro q hq; obtain ⟨t,ht,rfl⟩:=List.mem_map.1 hq; exact hnot t ht) t
  exact ((JjG hs.ok.tm kt t).mono leE).setFns _ (fun _=>hkeep)
 have hsw:=hit C1 rfl hfn (fun j hj=>hs.fresh j hj) E1 W1 _ hsat1
 have hcalls:Calls C.P gf all.toArray W1 (rangePost C.F 0 C.P (D + 1) (fun e a' w' => ∃ x E' st',e=x.toExit/\Sat C E' nt st' w' a'/\K x st') { a with defers:={ target := .collected D,args := #[] } :: a.defers }):=by
  refine calls_of_wp hf hb (wp_mono (wpIn_wide.1 hsw) ?_)
  rintro e a2 w2 ⟨x,E2,st2,rfl,hs2,hk2⟩
  have fin:(∃ st3,Ent C1 fn.ntmps st2 st3/\hoIn st3.hp hp2/\st3.nx<=nx2)->a2.defers = [] /\ ∃ v,(results fn a2.tmps).run C.P w2 = .ok v w2/\rangePost C.F 0 C.P (D + 1) (fun e a' w' => ∃ x E' st',e=x.toExit/\Sat C E' nt st' w' a'/\K x st') { a with defers:={ target := .collected D,args := #[] } :: a.defers } (.returned v) w2:=by
   rintro ⟨st3,hent,hho,hnx⟩
   obtain ⟨E3,hs3⟩:=hent E2 w2 a2 hs2
   refine ⟨hs2.ok.defers.1 rfl,_,Jce (us:=[]) (by rw [hrs]; rfl),?_⟩
   have h3:=hs3.ok.heap
   have hL3:E3.M (D + 1)=some (.loop rec'):=h3.le.M _ _ hML
   have hD3:E3.M D=some (.deferred (some [])):=h3.le.M _ _ hMD
   have hend:=run_endLoop (P:=C.P) (h3.mem _ _ hL3) (by simp [rec'])
   refine ⟨none,_,hend,.normal,?_⟩
   let E4:Env:={ E3 with M:=fun b=>if b=D + 1 then none else E3.M b,fns:=E.fns }
   have hlE:E.leC E4:=⟨fun b o hb _=>by
     have hlt:=hMlt b o hb
     show (if b=D + 1 then none else E3.M b)=some o
     rw [if_neg (by omega)]
     exact h3.le.M b o (by show E'.M b=some o; rw [hE'M b hlt]; exact hb),fun b k hb=>h3.le.blk b k hb,fun b u hb=>h3.le.hdr b u hb,rfl⟩
   have hleC0:C.E0.le E4:=⟨fun b o hb=>by
     have hb':=hh.le.M b o hb
     have hlt:=hMlt b o hb'
     show (if b=D + 1 then none else E3.M b)=some o
     rw [if_neg (by omega)]
     exact h3.le.M b o (by show E'.M b=some o; rw [hE'M b hlt]; exact hb'),fun b k hb=>hlE.blk b k (hh.le.blk b k hb),fun b u hb=>hlE.hdr b u (hh.le.hdr b u hb),hh.le.fns⟩
   let E3':Env:={ E3 with M:=fun b=>if b=D + 1 then none else E3.M b }
   let C2:Ctx:=⟨C.P,C.w0,{ E1 with M:=fun b=>if b=D + 1 then none else E1.M b },C.avail,C.hA,none,false⟩
   have h4:HeapOK C2 E3' (Heap.of st3.hp) (w2.putObj (D + 1) (.loop { rec' with state := .exhausted })):=by
    refine h3.putL (C2:=C2) (m:=none) hL3 rfl (.inl rfl) rfl rfl rfl rfl rfl rfl (fun _ h=>h) (fun b hb => ?_) ⟨fun b o hb => ?_,h3.le.blk,h3.le.hdr,h3.le.fns⟩ (fun b o hb => ?_)
    ·have hlt:b < C.w0.heap.size:=Nat.lt_of_not_le fun hle=>hb (C.hA b hle)
     have hsz:=hh.size
     rw [World.putObj_heap_other (by omega)]
     exact h3.pres b hb
    ·replace hb:(if b=D + 1 then none else E1.M b)=some o:=hb
     show (if b=D + 1 then none else E3.M b)=some o
     split at hb
     ·cases hb
     ·rename_i e; rw [if_neg e]; exact h3.le.M b o hb
    ·replace hb:(if b=D + 1 then none else E3.M b)=some o:=hb
     split at hb
     ·cases hb
     ·rename_i e
      rcases h3.ext b o hb with h | h
      ·exact .inl (by show (if b=D + 1 then none else E1.M b)=some o; rw [if_neg e]; exact h)
      ·exact .inr h
   have h5:HeapOK C E4 (Heap.of hp2) (w2.putObj (D + 1) (.loop { rec' with state := .exhausted })):=by
    refine ⟨h4.os,h4.tape,h4.output,h4.size,h4.pres,h4.mem,hleC0,fun b o hb => ?_,fun i ob hi => ?_,fun i j k hij hi hj h1 h2 => ?_⟩
    ·rcases h4.ext b o hb with h | h
     ·replace h:(if b=D + 1 then none else E'.M b)=some o:=h
      split at h
      ·cases h
      ·rename_i e
       by_cases e2:b=D
       ·exact .inr (C.hA b (by rw [e2]; exact hh.size))
       ·replace h:(if b=D then some (.deferred (some [])) else if b=D + 1 then some (.loop rec') else E.M b)=some o:=h
        rw [if_neg e2,if_neg e] at h
        exact hh.ext b o h
     ·exact .inr h
    ·have hm:=Heap.of_mem hi
     have hnf:=hnoh2 _ hm
     refine (h4.own i ob (JcP hho _ hm)).move (C':=C) (E':=E4) (.inr hnf) (fun _ _ h=>h) (fun _ _ h=>h) rfl (fun _ h=>h) (fun _ _=>rfl) (fun _ _ h=>h) (fun o cs us hr=>⟨⟨fun t e => ?_,fun t sz n f j e => ?_⟩,fun e => ?_⟩)
     ·have e':ob = .cells t cs:=e
      rw [e'] at hnf
      exact hr.setFns E.fns (fun _=>hnf)
     ·have e':ob = .vecx t sz n f j cs:=e
      rw [e'] at hnf
      exact hr.setFns E.fns (fun _=>hnf)
     ·exact hr.setFns E.fns (fun e'=>by rw [e] at e'; cases e')
    ·have get:∀ i,Heap.of hp2 i ≠ none->Heap.of st3.hp i ≠ none:=fun i h=>by
      cases e:Heap.of hp2 i with
      | none=>exact absurd e h
      | some ob=>rw [JcP hho _ (Heap.of_mem e)]; simp
     exact h4.sep i j k hij (get i hi) (get j hj) h1 h2
   have hC0D:C.E0.M D=none:=by
    cases e:C.E0.M D with
    | none=>rfl
    | some o=>have:=hMlt D o (hh.le.M D o e); omega
   have hD4:E4.M D=some (.deferred (some [])):=by
    show (if D=D + 1 then none else E3.M D)=_
    rw [if_neg (by omega)]; exact hD3
   refine ⟨E4,⟨st.tm,hp2,nx2⟩,rfl,⟨⟨h5,fun t=>(hs.ok.tm t).monoC hlE,⟨(fun h=>by rw [hdf] at h; cases h),⟨D,rfl,hD4,hC0D,(fun d' hd' e => ?_)⟩,hs.ok.defers.2.monoM (fun b o hb => ?_)⟩,hs.ok.size⟩,fun j hj=>hs3.fresh j (Nat.le_trans hnx hj)⟩,hk⟩
   ·obtain ⟨D',h1,h2⟩:=hs.ok.defers.2.mem d' hd'
    rw [h1] at e
    have h3:D'=D:=by injection e with e1 _; injection e1
    have:=hMlt D' _ h2
    omega
   ·have hlt:=hMlt b o hb
    show (if b=D + 1 then none else E3.M b)=some o
    rw [if_neg (by omega)]
    exact h3.le.M b o (by show E'.M b=some o; rw [hE'M b hlt]; exact hb)
  cases x with
  | normal=>exact fin hk2
  | ret=>exact fin hk2
  | exit id=>exact hk2.elim
 refine ⟨D + 1,[{ target := .collected D,args := #[] }],W1,{ target := .fn (.func gf) us.toArray,args := #[yv] },W1,gf,#[yv] ++ us.toArray,W1,?_,?_,?_,?_,(fun h=>by cases h),?_⟩
 ·show (Instr.enterLoop fnid a.tmps #[p] assign body C.ro).run C.P w=_
  rw [hro]; exact run_enterLoop_outer _ _ _ _ _
 ·simp only [resolve,hge]
  simp [go_sem]
  rfl
 ·intro f' hf'; trivial
 ·have eg:=hcall
  simp [invoke,go_sem,eg _ _]
 ·have : #[yv] ++ us.toArray=all.toArray:=by simp [all]
  rw [this]
  exact Jf3 hcalls
structure RangeH where
 J:Type
 ok:J->Prop
 Y:J->CallSpec
 hp:List (Nat × OB)
 N:Nat:=6000
theorem Jfq:∀ {l m:List (Nat × OB)},Jbd ((m ++ l).map (·.1))=true->hoIn (m ++ l) l:=by
 intro l
 induction l with
 | nil=>intro _ _; trivial
 | cons p r ih =>
  intro m h
  refine ⟨?_,by have:=ih (m:=m ++ [p]) (by simpa using h); simpa using this⟩
  have hn:=JdB h
  clear ih
  induction m with
  | nil=>rw [List.nil_append,Heap.of_cons,if_pos rfl]
  | cons q m ihm =>
   simp only [List.cons_append,List.map_cons,List.nodup_cons] at hn
   rw [List.cons_append,Heap.of_cons,if_neg]
   ·exact ihm (by simp only [List.cons_append,List.map_cons,Jbd,Bool.and_eq_true] at h; exact h.2) hn.2
   ·intro e
    exact hn.1 (by rw [e,List.map_append]; exact List.mem_append_right _ (by simp))
section
variable {C:Ctx} {nt:Nat} {st:ASt}
theorem JpG {hout:List (Nat × OB)} (nx:Nat) (h:Ent C nt st ⟨[],hout,nx⟩) (hd:Jbd (hout.map (·.1))=true):RndK C nt hout .normal st:=⟨_,h,Jfq (m:=[]) hd⟩
theorem JpH {hp:List (Nat × OB)} {nx:Nat} (h:Ent C nt st ⟨[],hp,nx⟩) (hd:Jbd (hp.map (·.1))=true):RngK C nt hp nx .ret st:=⟨_,h,Jfq (m:=[]) hd,Nat.le_refl _⟩
theorem Jo9 {hp:List (Nat × OB)} {nx:Nat} (h:Ent C nt st ⟨[],hp,nx⟩) (hd:Jbd (hp.map (·.1))=true):RngK C nt hp nx .normal st:=⟨_,h,Jfq (m:=[]) hd,Nat.le_refl _⟩
end
end Go.Ab
namespace Go.Ab
open Go Go.RowKit Go.Proofs
universe u
theorem tv:True:=trivial
theorem An {a b:Prop} (x:a) (y:b):a/\b:=⟨x,y⟩
def tk:Nat->Prop->Prop
 | 0,q=>q
 | n + 1,q=>True/\tk n q
theorem Ak:∀ (n:Nat) {q:Prop},q->tk n q
 | 0,_,h=>h
 | n + 1,_,h=>⟨trivial,Ak n h⟩
theorem zr {α:Sort u} (a:α):a=a:=rfl
theorem ci {a b:Int} (h:a=b):iv a=iv b:=congrArg iv h
theorem cb {a b:Bool} (h:a=b):bv a=bv b:=congrArg bv h
def qOf:Option (Prop × ASt)->Prop
 | some r=>r.1
 | none=>False
def sOf (st:ASt):Option (Prop × ASt)->ASt
 | some r=>r.2
 | none=>st
section
variable {w0:World} {E0:Env} {av:Nat->Prop} {hA:∀ b,w0.heap.size<=b->av b} {nt:Nat} {K:AX->ASt->Prop} {st:ASt} {id:Nat} {l:List Oper} {draw:Bool} {ro:Option Nat} {df:Bool}
theorem zC (cs:List (Nat × CallSpec)) (kt kh:List Nat) {q:Prop} (hq:q) (hk:K .normal (sOf st (Jfj Tryz.prog E0 T0 nt l draw cs kt kh st))) (h:qOf (Jfj Tryz.prog E0 T0 nt l draw cs kt kh st)=q:=by kernel_rfl) :
  SWP ⟨Tryz.prog,w0,E0,av,hA,ro,df⟩ nt (.region id l.toArray draw) K st:=by
 rw [← h] at hq
 cases he:Jfj Tryz.prog E0 T0 nt l draw cs kt kh st with
 | none=>rw [he] at hq; exact hq.elim
 | some x=>rw [he] at hk hq; exact JkF Jaw mixed he hq hk
theorem zR (kt kh:List Nat) {q:Prop} (hq:q) (hk:K .normal (sOf st (Jfj Tryz.prog E0 T0 nt l draw [] kt kh st))) (h:qOf (Jfj Tryz.prog E0 T0 nt l draw [] kt kh st)=q:=by kernel_rfl) :
  SWP ⟨Tryz.prog,w0,E0,av,hA,ro,df⟩ nt (.region id l.toArray draw) K st:=zC [] kt kh hq hk h
end
section
variable {C:Ctx} {nt:Nat} {K:AX->ASt->Prop} {st st2:ASt}
theorem zE (hE0:∀ j,C.E0.blk j=none/\C.E0.hdr j=none) (bs:List Nat) (mp:List (Nat × Src)) (kt kh:List Nat) {q:Prop} (hq:q) (hb:entB 0 st2 bs mp=true:=by kernel_rfl) (he:entK st st2 bs mp kt kh=q:=by kernel_rfl):Ent C nt st st2:=ent_q hE0 bs mp kt kh q hb he hq
theorem zEp (hE0:∀ j,1<=j->C.E0.blk j=none/\C.E0.hdr j=none) (bs:List Nat) (mp:List (Nat × Src)) (kt kh:List Nat) {q:Prop} (hq:q) (hb:entB 1 st2 bs mp=true:=by kernel_rfl) (he:entK st st2 bs mp kt kh=q:=by kernel_rfl):Ent C nt st st2:=ent_n 1 hE0 bs mp kt kh q hb he hq
theorem zEn (N:Nat) (hE0:∀ j,N<=j->C.E0.blk j=none/\C.E0.hdr j=none) (bs:List Nat) (mp:List (Nat × Src)) (kt kh:List Nat) {q:Prop} (hq:q) (hb:entB N st2 bs mp=true:=by kernel_rfl) (he:entK st st2 bs mp kt kh=q:=by kernel_rfl):Ent C nt st st2:=ent_n N hE0 bs mp kt kh q hb he hq
def loopZ (C:Ctx) (nt:Nat) (A:LoopAnn) (x:A.X) (K:AX->ASt->Prop):AX->ASt->Prop
 | .normal,st => ∃ x',Ent C nt st (A.S x')/\A.I x'/\A.mu x' < A.mu x
 | e,st=>K e st
theorem zL {c:Code} (A:LoopAnn) (h0:Ent C nt st (A.S A.x0)) (hI:A.I A.x0) (hb:∀ x,A.I x->SWP C nt c (loopZ C nt A x K) (A.S x)):SWP C nt (.loop c) K st :=
 JnS A.S A.I A.mu A.x0 h0 hI fun x hx=>JnR (hb x hx) fun e s h=>by cases e <;> exact h
theorem zn {A:LoopAnn} {x:A.X} (h:Ent C nt st (A.S (A.nx x))) (hI:A.I (A.nx x)) (hm:A.mu (A.nx x) < A.mu x):∃ x',Ent C nt st (A.S x')/\A.I x'/\A.mu x' < A.mu x:=⟨A.nx x,h,hI,hm⟩
theorem zI {c:Operand} {x y:Code} (b:Bool) (h1:b=true->SWP C nt x K st) (h2:b=false->SWP C nt y K st) (hc:opAV (look st.tm) c = .lit (.bool b):=by kernel_rfl):SWP C nt (.cond c x y) K st:=Jh0 b hc h1 h2
theorem zt {c:Operand} {x y:Code} (h1:SWP C nt x K st) (hc:opAV (look st.tm) c = .lit (.bool true):=by kernel_rfl):SWP C nt (.cond c x y) K st:=Jh0 true hc (fun _=>h1) (fun h=>by cases h)
theorem zf {c:Operand} {x y:Code} (h1:SWP C nt y K st) (hc:opAV (look st.tm) c = .lit (.bool false):=by kernel_rfl):SWP C nt (.cond c x y) K st:=Jh0 false hc (fun h=>by cases h) (fun _=>h1)
theorem zT {T:Tab} {rs:List ResultVar} {res:AV} (bs:List Nat) {q:Prop} (hq:q) (he:retQ T rs st res bs=q:=by kernel_rfl):RetK T rs res .ret st:=ret_q bs q he hq
theorem zP {T:Tab} {rs:List ResultVar} {res:AV} {t:TypeId} {cs':List AV} (cs:List AV) {q:Prop} (hq:q) (hc:cs=cs') (he:retQ T rs st res []=q:=by kernel_rfl) (hH:Heap.of st.hp 0=some (.cells t cs):=by kernel_rfl):RetP T rs res t cs' .ret st:=⟨by rw [he]; exact hq,by rw [hH,hc]⟩
theorem zO {T:Tab} {rs:List ResultVar} {res:AV} {hout:List (Nat × OB)} (st2:ASt) (he:Ent C nt st st2) {q:Prop} (h:q) (hq:retO T rs st2 res hout=q:=by kernel_rfl):RetO C nt T rs res hout .ret st:=ret_o st2 he q hq h
theorem zQ {T:Tab} {rs:List ResultVar} {res:AV} {hout:List (Nat × OB)} (st2:ASt) (he:Ent C nt st st2) {q:Prop} (h:q) (hq:retO T rs st2 res hout=q:=by kernel_rfl):RetO C nt T rs res hout .normal st:=norm_o st2 he q hq h
def fzS (b:Nat) (st:ASt):ASt :=
 match Heap.of st.hp b with
 | some (.cells _ cs)=>⟨st.tm.map (fun p=>(p.1,subP b cs p.2)),st.hp.filter (fun p=>p.1 != b),st.nx⟩
 | _=>st
def fzOK (b:Nat) (st:ASt):Bool :=
 match Heap.of st.hp b with
 | some (.cells _ cs)=>cs.all JnU
 | _=>false
theorem zF (b:Nat) (h:fzOK b st=true:=by kernel_rfl):Ent C nt st (fzS b st):=by
 unfold fzOK at h
 split at h
 ·rename_i t cs e
  refine ent_fz b t cs _ e h ?_
  unfold fzS
  rw [e]
 ·cases h
end
section
variable {C:Ctx} {nt:Nat} {st:ASt}
theorem zN {hout:List (Nat × OB)} (nx:Nat) (h:Ent C nt st ⟨[],hout,nx⟩) (hd:Jbd (hout.map (·.1))=true:=by kernel_rfl):RndK C nt hout .normal st:=JpG nx h hd
theorem zM {hp:List (Nat × OB)} {nx:Nat} (h:Ent C nt st ⟨[],hp,nx⟩) (hd:Jbd (hp.map (·.1))=true:=by kernel_rfl):RngK C nt hp nx .ret st:=JpH h hd
theorem zm {hp:List (Nat × OB)} {nx:Nat} (h:Ent C nt st ⟨[],hp,nx⟩) (hd:Jbd (hp.map (·.1))=true:=by kernel_rfl):RngK C nt hp nx .normal st:=Jo9 h hd
end
theorem zG {w0:World} {E0:Env} {av:Nat->Prop} {hA:∀ b,w0.heap.size<=b->av b} {nt:Nat} {K:AX->ASt->Prop} {st:ASt} {g:Operand} {p:Tmp} {assign body:Code} {gf:FuncId} {fn:Func} {c:Code}
  (h:RangeH) (n1 nx2 kf:Nat) (kt:List Nat) (caps:List AV) (hf:Tryz.prog.funcs[gf]? = some fn) (hcall:JbS Tryz.prog gf) (hb:fn.body=some c)
  (hit:∀ C':Ctx,C'.P=Tryz.prog->(∀ j,h.ok j -> ∀ u,C'.E0.fns kf u->FnIO Tryz.prog C'.E0 u (h.Y j))->(∀ j,n1<=j->C'.E0.blk j=none/\C'.E0.hdr j=none)->SWP C' fn.ntmps c (RngK C' fn.ntmps h.hp nx2) ⟨JbH (.fn kf :: caps) 0,st.hp,st.nx⟩)
  (hbody:∀ j,h.ok j->(h.Y j).pre -> ∀ C':Ctx,C'.P=Tryz.prog->(∀ j,h.N<=j->C'.E0.blk j=none/\C'.E0.hdr j=none)->SWP C' nt assign (AsgK Tryz.prog h.N nt body (h.Y j).hout) ⟨(p,(h.Y j).args.headD .any) :: (kt.map fun t=>(t,look st.tm t)),(h.Y j).hin,h.N⟩)
  (hk:K .normal ⟨st.tm,h.hp,nx2⟩) (hnx:st.nx=n1:=by kernel_rfl) (hrs:fn.results = #[]:=by rfl) (hg:opAV (look st.tm) g = .clo gf caps:=by kernel_rfl) (hn:Nat.ble (caps.length + 1) fn.ntmps=true:=by kernel_rfl) (hp:Nat.ble (p + 1) nt=true:=by kernel_rfl)
  (hno:(Jd4 caps && (kt.all fun t=>noFn (look st.tm t)) && (st.hp.all fun q=>Jdu q.2) && h.hp.all fun q=>Jdu q.2)=true:=by kernel_rfl) (hR:∀ j,Jo7 (h.Y j) (kt.map fun t=>(t,look st.tm t)) h.N=true:=by (intro _; kernel_rfl)) :
  SWP ⟨Tryz.prog,w0,E0,av,hA,none,true⟩ nt (.rangeFunc g #[p] assign body) K st :=
 Jmj h.hp nx2 kf h.N kt (fun s => ∃ j,h.ok j/\s=h.Y j) rfl rfl hg hf hb hrs hcall (Nat.le_of_ble_eq_true hn) (Nat.le_of_ble_eq_true hp) hno (by rintro s ⟨j,_,rfl⟩; exact hR j)
  (fun C' hC hY hE=>hit C' hC (fun j hj=>hY _ ⟨j,hj,rfl⟩) (by rw [hnx] at hE; exact hE)) (by rintro s ⟨j,hj,rfl⟩; exact hbody j hj) hk
end Go.Ab
namespace Go.Ab
theorem Jaf {α:Type} (l:List α) (d:α) {i:Nat} (h:i < l.length):l.getD i d=l[i]:=by
 rw [List.getD_eq_getElem?_getD,List.getElem?_eq_getElem h]; rfl
theorem JbY {α:Type} (l:List α) (d:α) {i:Nat} (h:l.length<=i):l.getD i d=d:=by
 rw [List.getD_eq_getElem?_getD,List.getElem?_eq_none h]; rfl
theorem Jbc {α:Type} (l:List α) (d:α) {i:Nat} (h:i < l.length):l.getD i d ∈ l:=by
 rw [Jaf l d h]; exact List.getElem_mem h
theorem JaV {α:Type} (l:List α) (d:α) {i:Nat} (h:i < l.length):l.take (i + 1)=l.take i ++ [l.getD i d]:=by
 rw [Jaf l d h,List.take_add_one,List.getElem?_eq_getElem h]; rfl
theorem JdD {α:Type} (l:List α) (d:α) (p:α->Bool) (h:∀ j,j < l.length->p (l.getD j d)=true):l.all p=true:=by
 rw [List.all_eq_true]
 intro x hx
 obtain ⟨j,hj,rfl⟩:=List.getElem_of_mem hx
 rw [← Jaf l d hj]; exact h j hj
theorem Jde {α:Type} {l:List α} (d:α) {p:α->Bool} (h:l.all p=true) {j:Nat} (hj:j < l.length):p (l.getD j d)=true:=by
 rw [List.all_eq_true] at h
 exact h _ (Jbc l d hj)
theorem Jh5 {α:Type} (l:List α) (d:α) (p:α->Bool) {j:Nat} (hj:j < l.length) (h:p (l.getD j d)=false):l.all p=false:=by
 cases e:l.all p with
 | false=>rfl
 | true=>rw [Jde d e hj] at h; cases h
theorem Jh6 {α:Type} (l:List α) (d:α) (p:α->Bool) (h:∀ j,j < l.length->p (l.getD j d)=false):l.any p=false:=by
 rw [List.any_eq_false]
 intro x hx
 obtain ⟨j,hj,rfl⟩:=List.getElem_of_mem hx
 rw [← Jaf l d hj,h j hj]; simp
theorem JjN {α:Type} (l:List α) (d:α) (p:α->Bool) {j:Nat} (hj:j < l.length) (h:p (l.getD j d)=true):l.any p=true:=by
 rw [List.any_eq_true]
 exact ⟨_,Jbc l d hj,h⟩
theorem Joa {α:Type} {a b:List α} (d:α) (hl:a.length=b.length) (h:∀ j,j < a.length->a.getD j d=b.getD j d):a=b:=by
 refine List.ext_getElem hl fun j h1 h2 => ?_
 rw [← Jaf a d h1,← Jaf b d h2]; exact h j h1
theorem Jad {P:Nat->Prop} {i:Nat} (h:∀ j,j < i->P j) (hi:P i):∀ j,j < i + 1->P j:=by
 intro j hj
 by_cases e:j=i
 ·subst e; exact hi
 ·exact h j (by omega)
theorem JcX {α:Type} (f:α->Nat->α) (a:α) (n:Nat):(List.range (n + 1)).foldl f a=f ((List.range n).foldl f a) n:=by
 rw [List.range_succ,List.foldl_append]; rfl
theorem Jbf {α:Type} (l m:List α) (d:α) (i:Nat):(l ++ m).getD i d=if i < l.length then l.getD i d else m.getD (i - l.length) d:=by
 simp only [List.getD_eq_getElem?_getD,List.getElem?_append]
 split <;> rfl
theorem Jmk {α:Type} (l m:List α) (d:α) (F:α->List AV) {n:Nat} {f g:Nat->List AV} (hn:n=l.length) (hf:∀ k,k < l.length->f k=F (l.getD k d)) (hg:∀ k,k < m.length->g k=F (m.getD k d)) {i:Nat} (hi:i < l.length + m.length):catF n f g i=F ((l ++ m).getD i d):=by
 unfold catF
 rw [Jbf,hn]
 split
 ·exact hf i ‹_›
 ·exact hg _ (by omega)
theorem Jc4 {α:Type} (l:List α) (x:α) (d:α) (F:α->List AV) {n:Nat} {f:Nat->List AV} {cells dd:List AV} (hn:n=l.length) (hf:∀ k,k < l.length->f k=F (l.getD k d)) (hc:cells=F x) {i:Nat} (hi:i < l.length + 1):catF n f (fun j=>[cells].getD j dd) i=F ((l ++ [x]).getD i d):=by
 refine Jmk l [x] d F hn hf (fun k hk => ?_) (by simpa using hi)
 have:k=0:=by simp at hk; omega
 subst this
 exact hc
theorem Jh7 (F:Nat->List AV) {n:Nat} {cells dd:List AV} (hc:cells=F n) {i:Nat} (hi:i < n + 1):catF n F (fun j=>[cells].getD j dd) i=F i:=by
 unfold catF
 split
 ·rfl
 ·have:i=n:=by omega
  subst this
  rw [Nat.sub_self]; exact hc
theorem Jfr {α β:Type} (f:α->List β) (b:Nat):∀ (l:List α),(∀ x ∈ l,(f x).length<=b)->(l.flatMap f).length<=l.length * b:=by
 intro l
 induction l with
 | nil=>intro _; simp
 | cons x l ih =>
  intro h
  have h1:=h x (by simp)
  have h2:=ih (fun y hy=>h y (by simp [hy]))
  simp only [List.flatMap_cons,List.length_append,List.length_cons,Nat.succ_mul]
  omega
theorem nbor2 (a b:Bool):(bif !a then true else !b) = !(a && b):=by cases a <;> rfl
theorem nbor3 (a b c:Bool):(bif bif !a then true else !b then true else !c) = !(a && b && c):=by cases a <;> cases b <;> rfl
end Go.Ab
namespace Go.Sh
structure Span where
 lo:Int
 hi:Int
 deriving DecidableEq,Inhabited
def Ja1 (n lo hi:Int):Bool:=decide (lo<=n) && decide (n<=hi)
def isIn (l:List Int) (n:Int):Bool:=l.any (fun x=>decide (x=n))
def Jay (s:Span) (most:Int):Bool:=Ja1 s.hi 0 most && Ja1 s.lo 0 s.hi
def Jh8 (l:List Int) (lo hi:Int) (i:Nat):Bool:=Ja1 (l.getD i 0) lo hi && (!decide ((i:Int) > 0) || !decide (l.getD i 0<=l.getD (i - 1) 0))
def Jbg (l:List Int) (lo hi:Int):Bool:=(List.range l.length).all (Jh8 l lo hi)
def Jbz:List Int->List Int->Bool
 | x :: xs,y :: ys=>if x=y then Jbz xs ys else decide (x < y)
 | _,_=>false
theorem JaB {n lo hi:Int}:Ja1 n lo hi=true ↔ lo<=n/\n<=hi:=by simp [Ja1]
theorem JkL {l:List Int} {lo hi:Int} (h:Jbg l lo hi=true) {k:Nat} (hk:k < l.length):lo<=l.getD k 0/\l.getD k 0<=hi/\(0 < k->l.getD (k - 1) 0 < l.getD k 0):=by
 unfold Jbg at h
 rw [List.all_eq_true] at h
 have h1:=h k (List.mem_range.2 hk)
 simp only [Jh8,Bool.and_eq_true,JaB,Bool.or_eq_true,Bool.not_eq_true',decide_eq_false_iff_not] at h1
 refine ⟨h1.1.1,h1.1.2,fun h0 => ?_⟩
 rcases h1.2 with h2 | h2 <;> omega
theorem Ji0 {α:Type} (d:α) {l:List α} {k:Nat} (h:k < l.length):l.drop k=l.getD k d :: l.drop (k + 1):=by
 rw [List.drop_eq_getElem_cons h,List.getD_eq_getElem?_getD,List.getElem?_eq_getElem h]; rfl
end Go.Sh
namespace Go.En
open Go Go.Ab Go.Sh
def Ja6 (l:List Int):AV := .sl 1 l.length (fun i=>[iv (l.getD i 0)])
def JaP (l:List (List Int)):AV := .sl 1 l.length (fun i=>[Ja6 (l.getD i [])])
def Jb6 (s:Span):List AV:=[iv s.lo,iv s.hi]
abbrev Jjc (s:Span):AV := .agg (Jb6 s)
end Go.En
namespace Go.Ab
open Go Go.RowKit Go.Sh Go.En
abbrev big:Nat:=1125899906842624
def s8 (n lo hi:Int):CallSpec:={ args:=[iv n,iv lo,iv hi],res:=bv (Ja1 n lo hi) }
def s31 (l:List Int) (n:Int):CallSpec:={ args:=[Ja6 l,iv n],res:=bv (isIn l n),pre:=l.length<=big }
def h31 (l:List Int) (n:Int):Hint:={ X:=Nat,M:=fun i=>[(5,iv i)],I:=fun i=>i<=l.length/\isIn (l.take i) n=false,mu:=fun i=>l.length - i,x0:=(0:Nat),nx:=fun i=>i + 1 }
def s12 (l:List Int) (lo hi:Int):CallSpec:={ args:=[Ja6 l,iv lo,iv hi],res:=bv (Jbg l lo hi),pre:=l.length<=big }
def h12 (l:List Int) (lo hi:Int):Hint:={ X:=Nat,M:=fun i=>[(7,iv i)],I:=fun i=>i<=l.length /\ ∀ j,j < i->Jh8 l lo hi j=true,mu:=fun i=>l.length - i,x0:=(0:Nat),nx:=fun i=>i + 1 }
def s18 (s:Span) (most:Int):CallSpec:={ args:=[Jjc s,iv most],res:=bv (Jay s most) }
end Go.Ab
namespace Go.Ab
open Go Go.RowKit Go.Proofs Go.Sh Go.En
theorem w8 (n:Int) (lo:Int) (hi:Int)
  (o0:(bif decide (lo<=n) then decide (n<=hi) else false)=Ja1 n lo hi) :
  Ja4 Tryz.prog 8 (s8 n lo hi):=by
 refine Ja7 Tryz.func8 rfl Tryz.call8 Jaw _ rfl rfl rfl rfl (Nat.le_of_ble_eq_true (by kernel_rfl)) (fun _ _ _ _ h=>h) ?_
 intro _ C hC _ hE
 obtain ⟨P,w0,E0,av,hA,ro,df⟩:=C
 obtain ⟨rfl,rfl,rfl⟩:=hC
 refine Ja0 ?_
 refine zR [0,1,2] [] (Ak 1 tv) ?_
 refine Ja0 ?_
 refine zR [6] [] (Ak 4 (An (fun (y0:decide (lo<=n)=true)=>(An (Ak 1 tv) tv)) (An (fun (y1:decide (lo<=n)=true)=>(An (Ak 1 tv) tv)) (An (fun (y2:decide (lo<=n)=true)=>(An (An (fun (y3:decide (lo<=n)=true)=>y2) (An (fun (y4:decide (lo<=n)=true)=>y2) tv)) tv)) (An (An (fun (y5:decide (lo<=n)=true)=>y5) (fun (y6:decide (lo<=n)=false)=>tv)) (Ak 1 tv)))))) ?_
 refine Ja5 ?_
 exact zT [] (An (Ak 1 tv) (An (An (cb (o0)) (zr nilN)) (An (zr true) (An (zr true) (zr true)))))
theorem t8 (n lo hi:Int):Ja4 Tryz.prog 8 (s8 n lo hi):=by
 refine w8 n lo hi ?_
 unfold Ja1; cases decide (lo<=n) <;> rfl
abbrev q0 (l:List Int) (Pq:Prop):Prop:=l.length<=big->Pq
abbrev q1 (l:List Int) (n:Int) (x0:Nat) (Pq:Prop):Prop:=x0<=l.length/\isIn (List.take x0 l) n=false->Pq
abbrev q2 (l:List Int) (n:Int) (x0:Nat) (Pq:Prop):Prop:=q1 l n x0 (decide ((x0:Int) < (↑(l.length):Int))=true->Pq)
theorem w31 (l:List Int) (n:Int)
 (o0:List.length l<=big->0=(↑0:Int))
 (o1:q0 l (0<=l.length/\isIn (List.take 0 l) n=false))
 (o2:q0 l (∀ (x0:Nat),q2 l n x0 (0<=(x0:Int))))
 (o3:q0 l (∀ (x0:Nat),q2 l n x0 ((x0:Int) < (↑(l.length):Int))))
 (o4:q0 l (∀ (x0:Nat),q2 l n x0 (decide (l.getD x0 0=n)=true->true=isIn l n)))
 (o5:q0 l (∀ (x0:Nat),q2 l n x0 (decide (l.getD x0 0=n)=false->inI ((x0:Int) + 1))))
 (o6:q0 l (∀ (x0:Nat),q2 l n x0 (decide (l.getD x0 0=n)=false->(x0:Int) + 1=(↑(x0 + 1):Int))))
 (o7:q0 l (∀ (x0:Nat),q2 l n x0 (decide (l.getD x0 0=n)=false->x0 + 1<=l.length/\isIn (List.take (x0 + 1) l) n=false)))
 (o8:q0 l (∀ (x0:Nat),q2 l n x0 (decide (l.getD x0 0=n)=false->l.length - (x0 + 1) < l.length - x0)))
 (o9:q0 l (∀ (x0:Nat),q1 l n x0 (decide ((x0:Int) < (↑(l.length):Int))=false->false=isIn l n))) :
  Ja4 Tryz.prog 31 (s31 l n):=by
 refine Ja7 Tryz.func31 rfl Tryz.call31 Jaw _ rfl rfl rfl rfl (Nat.le_of_ble_eq_true (by kernel_rfl)) (fun _ _ _ _ h=>h) ?_
 intro hpre C hC _ hE
 obtain ⟨P,w0,E0,av,hA,ro,df⟩:=C
 obtain ⟨rfl,rfl,rfl⟩:=hC
 refine Ja0 ?_
 refine zR [0,1] [] (Ak 1 tv) ?_
 refine Ja0 ?_
 refine Ja0 ?_
 refine zR [0,1,5] [] (Ak 1 tv) ?_
 refine Ja2 ?_
 refine zL (Hint.ann (h31 l n) [(0,Ja6 l),(1,iv n)] [] 10016) (zE hE [] [] [0,1] [] (An (An (An (zr (Ja6 l)) (zr true)) (An (An (zr (iv n)) (zr true)) (An (An (ci (o0 hpre)) (zr nilN)) tv))) (Ak 1 (An (zr true) (zr true))))) (o1 hpre) (fun (x0:Nat) hx0 => ?_)
 refine Ja0 ?_
 refine Ja0 ?_
 refine zR [0,1,5,9] [] (Ak 4 tv) ?_
 refine zI (decide ((x0:Int) < (↑(l.length):Int))) (fun y1 => ?_) (fun y1 => ?_)
 ·refine Ja3 ?_
  refine Ja0 ?_
  refine Ja2 ?_
  refine Ja0 ?_
  refine zR [0,1,5,17] [] (Ak 2 (An (An (o2 hpre x0 hx0 y1) (o3 hpre x0 hx0 y1)) (Ak 3 tv))) ?_
  refine zI (decide (l.getD x0 0=n)) (fun y2 => ?_) (fun y2 => ?_)
  ·refine Ja0 ?_
   refine zR [4] [] (Ak 1 tv) ?_
   refine Ja5 ?_
   exact zT [] (An (Ak 1 tv) (An (An (cb (o4 hpre x0 hx0 y1 y2)) (zr nilN)) (An (zr true) (An (zr true) (zr true)))))
  ·refine Ja3 ?_
   refine zR [0,1,5] [] (Ak 1 (An (o5 hpre x0 hx0 y1 y2) (Ak 1 tv))) ?_
   exact zn (zE hE [] [] [0,1] [] (An (An (An (zr (Ja6 l)) (zr true)) (An (An (zr (iv n)) (zr true)) (An (An (ci (o6 hpre x0 hx0 y1 y2)) (zr nilN)) tv))) (Ak 1 (An (zr true) (zr true))))) (o7 hpre x0 hx0 y1 y2) (o8 hpre x0 hx0 y1 y2)
 ·refine Jaa ?_
  refine Ja0 ?_
  refine zR [4] [] (Ak 1 tv) ?_
  refine Ja5 ?_
  exact zT [] (An (Ak 1 tv) (An (An (cb (o9 hpre x0 hx0 y1)) (zr nilN)) (An (zr true) (An (zr true) (zr true)))))
theorem t31 (l:List Int) (n:Int):Ja4 Tryz.prog 31 (s31 l n):=by
 apply w31
 all_goals (try delta q0 q1 q2)
 case o1=>intro _; exact ⟨Nat.zero_le _,rfl⟩
 case o4 =>
  intro hp x hx h h2
  simp only [decide_eq_true_eq] at h
  exact (JjN l 0 _ (by omega) h2).symm
 case o7 =>
  intro hp x hx h h2
  simp only [decide_eq_true_eq] at h
  refine ⟨by omega,?_⟩
  rw [JaV l 0 (by omega)]
  have h3:=hx.2
  unfold isIn at h3 ⊢
  rw [List.any_append,h3]; simpa using h2
 case o9 =>
  intro hp x hx h
  simp only [decide_eq_false_iff_not] at h
  have h3:=hx.2
  rw [List.take_of_length_le (by omega)] at h3
  exact h3.symm
 all_goals (try ((repeat intro _) <;> (try simp only [Bool.cond_true_left,Bool.cond_false_right,Bool.not_not,Bool.not_eq_true',Bool.not_eq_false',Bool.or_eq_true,Bool.or_eq_false_iff,Bool.and_eq_true,decide_eq_true_eq,decide_eq_false_iff_not,inI,big] at *) <;> first | (exact rfl) | omega | (exact ⟨Nat.zero_le _,fun j hj=>absurd hj (Nat.not_lt_zero j)⟩) | (simp_all; done) | (simp_all; omega)))
abbrev q3 (l:List Int) (Pq:Prop):Prop:=l.length<=big->Pq
abbrev q4 (l:List Int) (lo:Int) (hi:Int) (x0:Nat) (Pq:Prop):Prop:=(x0<=l.length /\ ∀ (j:Nat),j < x0->Jh8 l lo hi j=true)->Pq
abbrev q5 (l:List Int) (lo:Int) (hi:Int) (x0:Nat) (Pq:Prop):Prop:=q4 l lo hi x0 (decide ((x0:Int) < (↑(l.length):Int))=true->Pq)
abbrev q6 (l:List Int) (lo:Int) (hi:Int) (x0:Nat) (Pq:Prop):Prop:=q5 l lo hi x0 ((!!Ja1 (l.getD x0 0) lo hi && decide (0 < (x0:Int)))=true->Pq)
abbrev q7 (l:List Int) (lo:Int) (hi:Int) (x0:Nat) (Pq:Prop):Prop:=q5 l lo hi x0 ((bif !Ja1 (l.getD x0 0) lo hi then true else bif decide (0 < (x0:Int)) then decide (l.getD x0 0<=l.getD ((x0:Int) - 1).toNat 0) else false)=false->Pq)
theorem w12 (l:List Int) (lo:Int) (hi:Int)
 (o0:List.length l<=big->0=(↑0:Int))
 (o1:q3 l (0<=l.length /\ ∀ (j:Nat),j < 0->Jh8 l lo hi j=true))
 (o2:q3 l (∀ (x0:Nat),q5 l lo hi x0 (0<=(x0:Int))))
 (o3:q3 l (∀ (x0:Nat),q5 l lo hi x0 ((x0:Int) < (↑(l.length):Int))))
 (o4:q3 l (∀ (x0:Nat),q6 l lo hi x0 (0<=(x0:Int))))
 (o5:q3 l (∀ (x0:Nat),q6 l lo hi x0 ((x0:Int) < (↑(l.length):Int))))
 (o6:q3 l (∀ (x0:Nat),q6 l lo hi x0 (inI ((x0:Int) - 1))))
 (o7:q3 l (∀ (x0:Nat),q6 l lo hi x0 (0<=(x0:Int) - 1)))
 (o8:q3 l (∀ (x0:Nat),q6 l lo hi x0 ((x0:Int) - 1 < (↑(l.length):Int))))
 (o9:q3 l (∀ (x0:Nat),q5 l lo hi x0 ((!!Ja1 (l.getD x0 0) lo hi)=true->decide (0 < (x0:Int))=true->(!!Ja1 (l.getD x0 0) lo hi && decide (0 < (x0:Int)))=true)))
 (o10:q3 l (∀ (x0:Nat),q5 l lo hi x0 ((!Ja1 (l.getD x0 0) lo hi)=false->(!!Ja1 (l.getD x0 0) lo hi)=true)))
 (o11:q3 l (∀ (x0:Nat),q5 l lo hi x0 ((bif !Ja1 (l.getD x0 0) lo hi then true else bif decide (0 < (x0:Int)) then decide (l.getD x0 0<=l.getD ((x0:Int) - 1).toNat 0) else false)=true->false=Jbg l lo hi)))
 (o12:q3 l (∀ (x0:Nat),q7 l lo hi x0 (inI ((x0:Int) + 1))))
 (o13:q3 l (∀ (x0:Nat),q7 l lo hi x0 ((x0:Int) + 1=(↑(x0 + 1):Int))))
 (o14:q3 l (∀ (x0:Nat),q7 l lo hi x0 (x0 + 1<=l.length /\ ∀ (j:Nat),j < x0 + 1->Jh8 l lo hi j=true)))
 (o15:q3 l (∀ (x0:Nat),q7 l lo hi x0 (l.length - (x0 + 1) < l.length - x0)))
 (o16:q3 l (∀ (x0:Nat),q4 l lo hi x0 (decide ((x0:Int) < (↑(l.length):Int))=false->true=Jbg l lo hi))) :
  Ja4 Tryz.prog 12 (s12 l lo hi):=by
 refine Ja7 Tryz.func12 rfl Tryz.call12 Jaw _ rfl rfl rfl rfl (Nat.le_of_ble_eq_true (by kernel_rfl)) (fun _ _ _ _ h=>h) ?_
 intro hpre C hC _ hE
 obtain ⟨P,w0,E0,av,hA,ro,df⟩:=C
 obtain ⟨rfl,rfl,rfl⟩:=hC
 refine Ja0 ?_
 refine zR [0,1,2] [] (Ak 1 tv) ?_
 refine Ja0 ?_
 refine Ja0 ?_
 refine zR [0,1,2,7] [] (Ak 1 tv) ?_
 refine Ja2 ?_
 refine zL (Hint.ann (h12 l lo hi) [(0,Ja6 l),(1,iv lo),(2,iv hi)] [] 10016) (zE hE [] [] [0,1,2] [] (An (An (An (zr (Ja6 l)) (zr true)) (An (An (zr (iv lo)) (zr true)) (An (An (zr (iv hi)) (zr true)) (An (An (ci (o0 hpre)) (zr nilN)) tv)))) (Ak 1 (An (zr true) (zr true))))) (o1 hpre) (fun (x0:Nat) hx0 => ?_)
 refine Ja0 ?_
 refine Ja0 ?_
 refine zR [0,1,2,7,11] [] (Ak 4 tv) ?_
 refine zI (decide ((x0:Int) < (↑(l.length):Int))) (fun y1 => ?_) (fun y1 => ?_)
 ·refine Ja3 ?_
  refine Ja0 ?_
  refine Ja2 ?_
  refine Ja0 ?_
  refine zC ([(6,CallSpec.eq (s8 (l.getD x0 0) lo hi) [true,true,true])]) [0,1,2,7,37] [] (Ak 2 (An (An (o2 hpre x0 hx0 y1) (o3 hpre x0 hx0 y1)) (Ak 3 (An (An (An (zr (iv (l.getD x0 0))) (An (zr (iv lo)) (An (zr (iv hi)) tv))) (An (t8 (l.getD x0 0) (lo) (hi)) (Ak 2 (fun (i2:Env)=>tv)))) (Ak 2 (An (fun (y3:(!!Ja1 (l.getD x0 0) lo hi)=true)=>(An (Ak 1 tv) tv)) (An (fun (y4:(!!Ja1 (l.getD x0 0) lo hi)=true)=>(An (An (fun (y5:(!!Ja1 (l.getD x0 0) lo hi)=true)=>y4) (Ak 1 tv)) tv)) (An (fun (y6:(!!Ja1 (l.getD x0 0) lo hi)=true)=>(An (An (fun (y7:(!!Ja1 (l.getD x0 0) lo hi)=true)=>y6) tv) tv)) (An (fun (y8:(!!Ja1 (l.getD x0 0) lo hi && decide (0 < (x0:Int)))=true)=>(An (Ak 1 tv) tv)) (An (fun (y9:(!!Ja1 (l.getD x0 0) lo hi && decide (0 < (x0:Int)))=true)=>(An (Ak 1 tv) tv)) (An (fun (y10:(!!Ja1 (l.getD x0 0) lo hi && decide (0 < (x0:Int)))=true)=>(An (An (fun (y11:(!!Ja1 (l.getD x0 0) lo hi && decide (0 < (x0:Int)))=true)=>y10) (An (fun (y12:(!!Ja1 (l.getD x0 0) lo hi && decide (0 < (x0:Int)))=true)=>y10) tv)) (An (o4 hpre x0 hx0 y1 y10) (o5 hpre x0 hx0 y1 y10)))) (An (fun (y13:(!!Ja1 (l.getD x0 0) lo hi && decide (0 < (x0:Int)))=true)=>(An (An (fun (y14:(!!Ja1 (l.getD x0 0) lo hi && decide (0 < (x0:Int)))=true)=>y13) tv) tv)) (An (fun (y15:(!!Ja1 (l.getD x0 0) lo hi && decide (0 < (x0:Int)))=true)=>(An (Ak 1 tv) tv)) (An (fun (y16:(!!Ja1 (l.getD x0 0) lo hi && decide (0 < (x0:Int)))=true)=>(An (Ak 1 tv) tv)) (An (fun (y17:(!!Ja1 (l.getD x0 0) lo hi && decide (0 < (x0:Int)))=true)=>(An (An (fun (y18:(!!Ja1 (l.getD x0 0) lo hi && decide (0 < (x0:Int)))=true)=>y17) (Ak 1 tv)) (o6 hpre x0 hx0 y1 y17))) (An (fun (y19:(!!Ja1 (l.getD x0 0) lo hi && decide (0 < (x0:Int)))=true)=>(An (An (fun (y20:(!!Ja1 (l.getD x0 0) lo hi && decide (0 < (x0:Int)))=true)=>y19) (An (fun (y21:(!!Ja1 (l.getD x0 0) lo hi && decide (0 < (x0:Int)))=true)=>y19) tv)) (An (o7 hpre x0 hx0 y1 y19) (o8 hpre x0 hx0 y1 y19)))) (An (fun (y22:(!!Ja1 (l.getD x0 0) lo hi && decide (0 < (x0:Int)))=true)=>(An (An (fun (y23:(!!Ja1 (l.getD x0 0) lo hi && decide (0 < (x0:Int)))=true)=>y22) tv) tv)) (An (fun (y24:(!!Ja1 (l.getD x0 0) lo hi && decide (0 < (x0:Int)))=true)=>(An (An (fun (y25:(!!Ja1 (l.getD x0 0) lo hi && decide (0 < (x0:Int)))=true)=>y24) (An (fun (y26:(!!Ja1 (l.getD x0 0) lo hi && decide (0 < (x0:Int)))=true)=>y24) tv)) tv)) (An (fun (y27:(!!Ja1 (l.getD x0 0) lo hi)=true)=>(An (An (fun (y28:(!!Ja1 (l.getD x0 0) lo hi)=true)=>y27) tv) (An (fun (y29:decide (0 < (x0:Int))=true)=>(o9 hpre x0 hx0 y1 y27 y29)) (fun (y30:decide (0 < (x0:Int))=false)=>tv)))) (An (An (fun (y31:(!Ja1 (l.getD x0 0) lo hi)=true)=>tv) (fun (y32:(!Ja1 (l.getD x0 0) lo hi)=false)=>(o10 hpre x0 hx0 y1 y32))) tv)))))))))))))))))))) ?_
  refine zI (bif !Ja1 (l.getD x0 0) lo hi then true else bif decide (0 < (x0:Int)) then decide (l.getD x0 0<=l.getD ((x0:Int) - 1).toNat 0) else false) (fun y33 => ?_) (fun y33 => ?_)
  ·refine Ja0 ?_
   refine zR [6] [] (Ak 1 tv) ?_
   refine Ja5 ?_
   exact zT [] (An (Ak 1 tv) (An (An (cb (o11 hpre x0 hx0 y1 y33)) (zr nilN)) (An (zr true) (An (zr true) (zr true)))))
  ·refine Ja3 ?_
   refine zR [0,1,2,7] [] (Ak 1 (An (o12 hpre x0 hx0 y1 y33) (Ak 1 tv))) ?_
   exact zn (zE hE [] [] [0,1,2] [] (An (An (An (zr (Ja6 l)) (zr true)) (An (An (zr (iv lo)) (zr true)) (An (An (zr (iv hi)) (zr true)) (An (An (ci (o13 hpre x0 hx0 y1 y33)) (zr nilN)) tv)))) (Ak 1 (An (zr true) (zr true))))) (o14 hpre x0 hx0 y1 y33) (o15 hpre x0 hx0 y1 y33)
 ·refine Jaa ?_
  refine Ja0 ?_
  refine zR [6] [] (Ak 1 tv) ?_
  refine Ja5 ?_
  exact zT [] (An (Ak 1 tv) (An (An (cb (o16 hpre x0 hx0 y1)) (zr nilN)) (An (zr true) (An (zr true) (zr true)))))
theorem t12 (l:List Int) (lo hi:Int):Ja4 Tryz.prog 12 (s12 l lo hi):=by
 apply w12
 all_goals (try delta q3 q4 q5 q6 q7)
 case o11 =>
  intro hp x hx h h2
  simp only [decide_eq_true_eq] at h
  symm
  unfold Jbg
  rw [List.all_eq_false]
  refine ⟨x,List.mem_range.2 (by omega),?_⟩
  simp only [Jh8]
  have e:Int.toNat ((x:Int) - 1)=x - 1:=by omega
  rw [e] at h2
  generalize l.getD x 0=a at *
  generalize l.getD (x - 1) 0=b at *
  cases e2:Ja1 a lo hi
  ·simp
  ·simp only [e2,Bool.not_true,cond_false,Bool.cond_false_right,Bool.and_eq_true,decide_eq_true_eq] at h2
   have h3:(x:Int) > 0:=h2.1
   simp [h2.2]; omega
 case o14 =>
  intro hp x hx h h2
  simp only [decide_eq_true_eq] at h
  refine ⟨by omega,Jad hx.2 ?_⟩
  simp only [Jh8]
  have e:Int.toNat ((x:Int) - 1)=x - 1:=by omega
  rw [e] at h2
  generalize l.getD x 0=a at *
  generalize l.getD (x - 1) 0=b at *
  cases e2:Ja1 a lo hi
  ·simp [e2] at h2
  ·simp only [e2,Bool.not_true,cond_false,Bool.cond_false_right,Bool.and_eq_false_imp,decide_eq_true_eq,decide_eq_false_iff_not] at h2
   simp only [Bool.true_and,Bool.or_eq_true,Bool.not_eq_true',decide_eq_false_iff_not]
   by_cases e:(x:Int) > 0
   ·exact .inr (h2 (by omega))
   ·exact .inl e
 case o16 =>
  intro hp x hx h
  simp only [decide_eq_false_iff_not] at h
  symm
  unfold Jbg
  rw [List.all_eq_true]
  intro j hj
  exact hx.2 j (by have:=List.mem_range.1 hj; omega)
 all_goals (try ((repeat intro _) <;> (try simp only [Bool.cond_true_left,Bool.cond_false_right,Bool.not_not,Bool.not_eq_true',Bool.not_eq_false',Bool.or_eq_true,Bool.or_eq_false_iff,Bool.and_eq_true,decide_eq_true_eq,decide_eq_false_iff_not,inI,big] at *) <;> first | (exact rfl) | omega | (exact ⟨Nat.zero_le _,fun j hj=>absurd hj (Nat.not_lt_zero j)⟩) | (simp_all; done) | (simp_all; omega)))
theorem w18 (s:Span) (most:Int)
  (o0:(bif Ja1 s.hi 0 most then Ja1 s.lo 0 s.hi else false)=Jay s most) :
  Ja4 Tryz.prog 18 (s18 s most):=by
 refine Ja7 Tryz.func18 rfl Tryz.call18 Jaw _ rfl rfl rfl rfl (Nat.le_of_ble_eq_true (by kernel_rfl)) (fun _ _ _ _ h=>h) ?_
 intro _ C hC _ hE
 obtain ⟨P,w0,E0,av,hA,ro,df⟩:=C
 obtain ⟨rfl,rfl,rfl⟩:=hC
 refine Ja0 ?_
 refine zR [1,2] [0] (Ak 2 tv) ?_
 refine Ja0 ?_
 refine zC ([(3,CallSpec.eq (s8 s.hi 0 most) [true,true,true]),(9,CallSpec.eq (s8 s.lo 0 s.hi) [true,true,true])]) [4] [] (Ak 3 (An (An (An (zr (iv s.hi)) (An (zr (iv 0)) (An (zr (iv most)) tv))) (An (t8 s.hi (0) (most)) (Ak 2 (fun (i0:Env)=>tv)))) (Ak 1 (An (fun (y1:Ja1 s.hi 0 most=true)=>(An (Ak 1 tv) tv)) (An (fun (y2:Ja1 s.hi 0 most=true)=>(An (An (fun (y3:Ja1 s.hi 0 most=true)=>y2) tv) tv)) (An (fun (y4:Ja1 s.hi 0 most=true)=>(An (Ak 1 tv) tv)) (An (fun (y5:Ja1 s.hi 0 most=true)=>(An (An (fun (y6:Ja1 s.hi 0 most=true)=>y5) tv) tv)) (An (fun (y7:Ja1 s.hi 0 most=true)=>(An (Ak 1 (An (fun (y8:Ja1 s.hi 0 most=true)=>y7) (Ak 1 (An (fun (y9:Ja1 s.hi 0 most=true)=>y7) tv)))) (An (An (zr (iv s.lo)) (An (zr (iv 0)) (An (zr (iv s.hi)) tv))) (An (t8 s.lo (0) s.hi) (Ak 2 (fun (i10:Env)=>tv)))))) (An (An (fun (y11:Ja1 s.hi 0 most=true)=>y11) (fun (y12:Ja1 s.hi 0 most=false)=>tv)) (Ak 1 tv)))))))))) ?_
 refine Ja5 ?_
 exact zT [] (An (Ak 1 tv) (An (An (cb (o0)) (zr nilN)) (An (zr true) (An (zr true) (zr true)))))
theorem t18 (s:Span) (most:Int):Ja4 Tryz.prog 18 (s18 s most):=by
 apply w18
 unfold Jay; cases Ja1 s.hi 0 most <;> rfl
end Go.Ab
namespace Go.Proofs
open Go.Shelf
def Tryz.lays189_ren:Go.Shelf.Ren:=⟨fun | 189=>75 | 125=>73 | 257=>92 | 128=>89 | 129=>90 | 294=>100 | 295=>101 | 296=>102 | 297=>103 | 298=>104 | 299=>105 | 216=>106 | 300=>107 | 301=>108 | 328=>110 | 329=>96 | 330=>97 | 331=>111 | 332=>112 | 215=>76 | 343=>113 | n=>n,fun | 28=>27 | 3=>3 | 46=>131 | 0=>0 | 51=>150 | 53=>152 | 4=>4 | 183=>143 | 182=>142 | 131=>147 | 5=>5 | 9=>9 | 218=>157 | 222=>161 | 228=>167 | 229=>168 | n=>n,fun | n=>n⟩
theorem Tryz.lays189:Go.Proofs.Lays.n189 Tryz.prog Tryz.lays189_ren:={
 mixed:=by kernel_rfl
 f125:=Tryz.func73.trans (congrArg some (by kernel_rfl))
 f128:=Tryz.func89.trans (congrArg some (by kernel_rfl))
 f129:=Tryz.func90.trans (congrArg some (by kernel_rfl))
 f189:=Tryz.func75.trans (congrArg some (by kernel_rfl))
 f215:=Tryz.func76.trans (congrArg some (by kernel_rfl))
 f216:=Tryz.func106.trans (congrArg some (by kernel_rfl))
 f257:=Tryz.func92.trans (congrArg some (by kernel_rfl))
 f294:=Tryz.func100.trans (congrArg some (by kernel_rfl))
 f295:=Tryz.func101.trans (congrArg some (by kernel_rfl))
 f296:=Tryz.func102.trans (congrArg some (by kernel_rfl))
 f297:=Tryz.func103.trans (congrArg some (by kernel_rfl))
 f298:=Tryz.func104.trans (congrArg some (by kernel_rfl))
 f299:=Tryz.func105.trans (congrArg some (by kernel_rfl))
 f300:=Tryz.func107.trans (congrArg some (by kernel_rfl))
 f301:=Tryz.func108.trans (congrArg some (by kernel_rfl))
 f328:=Tryz.func110.trans (congrArg some (by kernel_rfl))
 f329:=Tryz.func96.trans (congrArg some (by kernel_rfl))
 f330:=Tryz.func97.trans (congrArg some (by kernel_rfl))
 f331:=Tryz.func111.trans (congrArg some (by kernel_rfl))
 f332:=Tryz.func112.trans (congrArg some (by kernel_rfl))
 f343:=Tryz.func113.trans (congrArg some (by kernel_rfl))
 t0:=Tryz.underlying0
 a0:=Tryz.isAgg0
 z0:=Tryz.sizeOf0
 v0:=Tryz.zeroValue0
 t3:=Tryz.underlying3
 a3:=Tryz.isAgg3
 z3:=Tryz.sizeOf3
 v3:=Tryz.zeroValue3
 t4:=Tryz.underlying4
 a4:=Tryz.isAgg4
 z4:=Tryz.sizeOf4
 v4:=Tryz.zeroValue4
 t5:=Tryz.underlying5
 a5:=Tryz.isAgg5
 z5:=Tryz.sizeOf5
 v5:=Tryz.zeroValue5
 t9:=Tryz.underlying9
 a9:=Tryz.isAgg9
 z9:=Tryz.sizeOf9
 v9:=Tryz.zeroValue9
 t28:=Tryz.underlying27
 a28:=Tryz.isAgg27
 z28:=Tryz.sizeOf27
 v28:=Tryz.zeroValue27
 t46:=Tryz.underlying131
 a46:=Tryz.isAgg131
 z46:=Tryz.sizeOf131
 v46:=Tryz.zeroValue131
 t51:=Tryz.underlying150
 a51:=Tryz.isAgg150
 z51:=Tryz.sizeOf150
 v51:=Tryz.zeroValue150
 t53:=Tryz.underlying152
 a53:=Tryz.isAgg152
 z53:=Tryz.sizeOf152
 v53:=Tryz.zeroValue152
 t131:=Tryz.underlying147
 a131:=Tryz.isAgg147
 z131:=Tryz.sizeOf147
 v131:=Tryz.zeroValue147
 t182:=Tryz.underlying142
 a182:=Tryz.isAgg142
 z182:=Tryz.sizeOf142
 v182:=Tryz.zeroValue142
 t183:=Tryz.underlying143
 a183:=Tryz.isAgg143
 z183:=Tryz.sizeOf143
 v183:=Tryz.zeroValue143
 t218:=Tryz.underlying157
 a218:=Tryz.isAgg157
 z218:=Tryz.sizeOf157
 v218:=Tryz.zeroValue157
 t222:=Tryz.underlying161
 a222:=Tryz.isAgg161
 z222:=Tryz.sizeOf161
 v222:=Tryz.zeroValue161
 t228:=Tryz.underlying167
 a228:=Tryz.isAgg167
 z228:=Tryz.sizeOf167
 v228:=Tryz.zeroValue167
 t229:=Tryz.underlying168
 a229:=Tryz.isAgg168
 z229:=Tryz.sizeOf168
 v229:=Tryz.zeroValue168 }
open Go.Sort Go.RowKit in
theorem Tryz.slices_Sort_int (blk off cap:Nat) (zs:List Int) (w:World) (hH:Holds (Value.int .i64) w blk off zs.toArray) (hblk:blk < w.heap.size) (hsz:zs.length < 4611686018427387904) :
  Calls Tryz.prog 75 #[.slice (some ⟨blk,off,none⟩) zs.length cap] w fun e w' =>
   e = .returned (.tuple #[]) /\ ∃ n os,w'=grow (putRow (Value.int .i64) (Sort.ahead w n) blk off (zs.mergeSort fun x y=>decide (x<=y)).toArray) os:=Any.slices_Sort_int Tryz.lays189 blk off cap zs w hH hblk hsz
theorem Tryz.slices_Sort_int_none (p:Option Addr) (cap:Nat) (w:World):Calls Tryz.prog 75 #[.slice p 0 cap] w fun e w'=>e = .returned (.tuple #[])/\w'=w:=Any.slices_Sort_int_none Tryz.lays189 p cap w
end Go.Proofs
namespace Go.Sh
def JdE (l:List Int):List Int:=l.mergeSort (fun x y=>decide (x<=y))
theorem JdX (l:List Int):(JdE l).length=l.length:=List.length_mergeSort _
end Go.Sh
namespace Go.Ab
open Go Go.RowKit Go.Sort Go.Sh
theorem Jjd {α:Type} [Inhabited α] (enc:α->Value) (w:World) (q k:Nat) (ys:List α) (os:Array Obj) (us:List Value) (e:TypeId) (hw:w.heap[k]? = some (.cells us.toArray e (0,0))) (hl:ys.length<=us.length) :
  (grow (putRow enc (Sort.ahead w q) k 0 ys.toArray) os).heap[k]? = some (.cells (ys.map enc ++ us.drop ys.length).toArray e (0,0))/\w.grownBy (grow (putRow enc (Sort.ahead w q) k 0 ys.toArray) os) (some k):=by
 have hlt:k < w.heap.size:=(Array.getElem?_eq_some_iff.1 hw).1
 have hsz:(putRow enc (Sort.ahead w q) k 0 ys.toArray).heap.size=w.heap.size:=by simp [putRow,mapBlock,Sort.ahead]
 refine ⟨?_,⟨rfl,rfl,rfl,by rw [size_grow,hsz]; omega,fun j hj hne => ?_⟩⟩
 ·rw [heap_grow_old _ _ (by rw [hsz]; exact hlt)]
  show ((Sort.ahead w q).heap.modify k _)[k]? = _
  have hw':(Sort.ahead w q).heap[k]? = some (.cells us.toArray e (0,0)):=hw
  rw [Array.getElem?_modify,if_pos rfl,hw']
  simp only [Option.map_some,onCells,Option.some.injEq,Obj.cells.injEq,and_true]
  apply Array.ext_getElem?
  intro i
  simp only [putCells,Array.getElem?_mapIdx,List.getElem?_toArray,List.size_toArray,Nat.zero_le,true_and,Nat.zero_add,Nat.sub_zero]
  by_cases h1:i < ys.length
  ·rw [List.getElem?_append_left (by simpa using h1),List.getElem?_map,List.getElem?_eq_getElem h1,List.getElem?_eq_getElem (show i < us.length by omega)]
   simp only [Option.map_some,if_pos h1]
   rw [getElem!_pos _ i (by simpa using h1)]
   simp
  ·rw [List.getElem?_append_right (by simpa using h1),List.getElem?_drop]
   have:ys.length + (i - (List.map enc ys).length)=i:=by simp; omega
   rw [this]
   cases us[i]? with
   | none=>rfl
   | some u=>simp only [Option.map_some,if_neg h1]
 ·rw [heap_grow_old _ _ (by rw [hsz]; exact hj)]
  show ((Sort.ahead w q).heap.modify k _)[j]? = _
  rw [Array.getElem?_modify,if_neg (fun e=>hne (by rw [e]))]
  rfl
def rowI (t:TypeId) (l:List Int):OB := .vec t 1 l.length (fun i=>[iv (l.getD i 0)])
theorem Ji1 {E:Env} {l:List Int} {g:Nat->List Value} (hr:∀ i,i < l.length->RelL E false [iv (l.getD i 0)] (g i)):(List.range l.length).flatMap g=l.map (Value.int .i64):=by
 have h1:∀ i,i < l.length->g i = [Value.int .i64 (l.getD i 0)]:=by
  intro i hi
  have:=hr i hi
  generalize g i=x at this
  cases this with
  | cons h _ hs=>cases hs; cases h; rfl
 refine List.ext_getElem? fun i => ?_
 have hlen:=Jab g 1 l.length (fun i hi=>by rw [h1 i hi]; rfl)
 by_cases hi:i < l.length
 ·have:=JaX g 1 l.length (fun i hi=>by rw [h1 i hi]; rfl) i 0 hi (by omega)
  simp only [Nat.mul_one,Nat.add_zero] at this
  rw [this,h1 i hi,List.getElem?_map,List.getElem?_eq_getElem hi]
  simp [List.getD,List.getElem?_eq_getElem hi]
 ·rw [List.getElem?_eq_none (by omega),List.getElem?_eq_none (by simpa using hi)]
theorem JjO (E:Env) (l:List Int):∀ i,i < l.length->RelL E false [iv (l.getD i 0)] [Value.int .i64 (l.getD i 0)]:=fun i _ => .cons (.lit _) rfl .nil
theorem rowI_flat' (l:List Int):(List.range l.length).flatMap (fun i=>[Value.int .i64 (l.getD i 0)])=l.map (Value.int .i64):=by
 let E0:Env:=⟨fun _=>none,fun _=>none,fun _=>none,fun _ _=>False⟩
 exact Ji1 (E:=E0) (JjO E0 l)
theorem holdsI {w:World} {k:Nat} {l:List Int} {us:List Value} {e:TypeId} (hw:w.heap[k]? = some (.cells us.toArray e (0,0))) (ht:us.take l.length=l.map (Value.int .i64)):Holds (Value.int .i64) w k 0 l.toArray:=by
 intro j hj
 have hj':j < l.length:=by simpa using hj
 have h1:us[j]? = some (.int .i64 l[j]):=by
  have:=congrArg (fun x=>x[j]?) ht
  simp only [List.getElem?_take,if_pos hj',List.getElem?_map,List.getElem?_eq_getElem hj',Option.map_some] at this
  exact this
 refine ⟨?_,?_⟩
 ·rw [Nat.zero_add,getElem!_pos _ j hj]
  simp only [World.cell?,hw]
  simpa using h1
 ·simp only [World.frozen?,hw]
  rfl
theorem Job {C:Ctx} {E:Env} {w:World} {b:Nat} {t:TypeId} {l:List Int} (h:JbJ C E w b (rowI t l)) (hn:0 < l.length) :
  ∃ k cap us,E.hdr b=some (.slice (some ⟨k,0,none⟩) l.length cap)/\l.length<=cap/\cap<=maxLen/\w.heap[k]? = some (.cells (List.toArray us) t (0,0))/\us.length=cap/\us.take l.length=l.map (Value.int .i64)/\E.blk b=some k/\C.avail k/\E.M k=none:=by
 obtain ⟨hd,g,hh,ho,hl,hr,hbk,hav⟩:=h
 rcases Jal ho with ⟨_,h0⟩ | ⟨k,cap,rfl,hnc,hcm,us,hw,hul,hut⟩
 ·omega
 ·rw [Nat.mul_one] at hul hut
  rw [Ji1 hr] at hut
  exact ⟨k,cap,us,hh,hnc,hcm,hw,hul,hut,hbk,(hav k rfl).1,(hav k rfl).2⟩
theorem JkM {w:World} {k cap:Nat} {us:List Value} {t:TypeId} {l:List Int} (hw:w.heap[k]? = some (.cells us.toArray t (0,0))) (hnc:l.length<=cap) (hcm:cap<=maxLen) (hul:us.length=cap) (hut:us.take l.length=l.map (Value.int .i64)) :
  w.ownsRow 0 t 1 (.slice (some ⟨k,0,none⟩) l.length cap) l.length ((List.range l.length).flatMap (fun i=>[Value.int .i64 (l.getD i 0)])):=by
 rw [rowI_flat']
 refine ⟨by simp,.inr ⟨k,cap,us.toArray,rfl,Nat.zero_le _,hw,hnc,hcm,by simpa using hul,by simpa using hut⟩⟩
theorem Jje {P:Program} {f:FuncId} (hcall:JbS P f) (t:TypeId) (b:Nat) (l:List Int)
  (h:∀ k cap w,Holds (Value.int .i64) w k 0 l.toArray->k < w.heap.size->l.length < 4611686018427387904->Calls P f #[.slice (some ⟨k,0,none⟩) l.length cap] w fun e w'=>e = .returned (.tuple #[]) /\ ∃ n os,w'=grow (putRow (Value.int .i64) (Sort.ahead w n) k 0 (JdE l).toArray) os) :
  Ja4 P f { args:=[.vec b],pre:=0 < l.length/\l.length<=65536,hin:=[(b,rowI t l)],res := .tup [],hout:=[(b,rowI t (JdE l))] }:=by
 refine ⟨hcall,fun hpre E w vs _ hok hlen hrel _ => ?_⟩
 obtain ⟨v,rfl⟩:∃ v,vs = [v]:=by
  match vs,hlen with
  | [v],_=>exact ⟨v,rfl⟩
 have hv:=hrel 0
 simp only [List.getD_cons_zero] at hv
 have hob:Heap.of [(b,rowI t l)] b=some (rowI t l):=by rw [Heap.of_cons,if_pos rfl]
 obtain ⟨k,cap,us,hh,hnc,hcm,hw,hul,hut,hbk,hav,hM⟩:=Job (hok.own b _ hob) hpre.1
 cases hv with
 | vec _ hh' _ =>
 rw [hh] at hh'
 cases hh'
 have hlt:k < w.heap.size:=(Array.getElem?_eq_some_iff.1 hw).1
 refine (h k cap w (holdsI hw hut) hlt (by omega)).mono ?_
 rintro e w' ⟨rfl,n,os,rfl⟩
 obtain ⟨h1,hg⟩:=Jjd (Value.int .i64) w n k (JdE l) os us t hw (by rw [JdX]; omega)
 refine ⟨_,E,rfl,?_,.tup rfl (fun k=>by simp; exact .any _),fun _ _=>⟨rfl,rfl⟩⟩
 have:=hok.setVec b k (by rw [hob]; simp) hbk hav hM hg (rowI t (JdE l)) ?_
 ·refine this.drop fun i ob hi => ?_
  rw [Heap.of_cons] at hi
  split at hi
  ·rename_i e; cases hi; unfold Heap.put; rw [if_pos e.symm]
  ·cases hi
 ·refine ⟨_,fun i=>[Value.int .i64 ((JdE l).getD i 0)],hh,?_,fun _ _=>rfl,JjO E _,hbk,fun k' hk' => ?_⟩
  ·have:=JkM (l:=JdE l) (cap:=cap) h1 (by rw [JdX]; exact hnc) hcm (by simp [JdX,hul]; omega) (by rw [List.take_append_of_le_length (by rw [List.length_map]; exact Nat.le_refl _)]; exact List.take_of_length_le (by rw [List.length_map]; exact Nat.le_refl _))
   rw [JdX] at this ⊢
   exact this
  ·cases hk'; exact ⟨hav,hM⟩
end Go.Ab
namespace Go.Ab
open Go Go.RowKit Go.Sort Go.Sh
theorem Ji2 {P:Program} {f:FuncId} (hcall:JbS P f) (t:TypeId) (b:Nat) (l:List Int)
  (h:∀ k cap w,Holds (Value.int .i64) w k 0 l.toArray->k < w.heap.size->l.length < 4611686018427387904->Calls P f #[.slice (some ⟨k,0,none⟩) l.length cap] w fun e w'=>e = .returned (.tuple #[]) /\ ∃ n os,w'=grow (putRow (Value.int .i64) (Sort.ahead w n) k 0 (l.mergeSort fun x y=>decide (x<=y)).toArray) os)
  (h0:∀ p cap w,Calls P f #[.slice p 0 cap] w fun e w'=>e = .returned (.tuple #[])/\w'=w) :
  Ja4 P f { args:=[.vec b],pre:=l.length<=65536,hin:=[(b,rowI t l)],res := .tup [],hout:=[(b,rowI t (JdE l))] }:=by
 refine ⟨hcall,fun hpre E w vs hfn hok hlen hrel hfr => ?_⟩
 cases l with
 | cons x l=>exact (Jje hcall t b (x :: l) h).2 ⟨Nat.succ_pos _,hpre⟩ E w vs hfn hok hlen hrel hfr
 | nil =>
  obtain ⟨v,rfl⟩:∃ v,vs = [v]:=by
   match vs,hlen with
   | [v],_=>exact ⟨v,rfl⟩
  have hv:=hrel 0
  simp only [List.getD_cons_zero] at hv
  have hob:Heap.of [(b,rowI t [])] b=some (rowI t []):=by rw [Heap.of_cons,if_pos rfl]
  have hown:=hok.own b _ hob
  have hs:JdE [] = []:=by simp [JdE]
  have fin:∀ u,E.hdr b=some u->Calls P f #[u] w (fun e w'=>e = .returned (.tuple #[])/\w'=w)->Calls P f #[v] w (JbD P { args:=[.vec b],pre:=([]:List Int).length<=65536,hin:=[(b,rowI t [])],res := .tup [],hout:=[(b,rowI t (JdE []))] } E w):=by
   intro u hu hc
   cases hv with
   | vec _ hh' _ =>
   rw [hu] at hh'
   cases hh'
   refine hc.mono ?_
   rintro e w' ⟨rfl,rfl⟩
   exact ⟨_,E,rfl,by rw [hs]; exact hok,.tup rfl (fun k=>by simp; exact .any _),fun _ _=>⟨rfl,rfl⟩⟩
  obtain ⟨hd,g,hh,ho,_⟩:=hown
  rcases Jal ho with ⟨hv',_⟩ | ⟨k,cap,hv',_⟩
  ·exact fin hd hh (by rw [hv']; exact h0 none 0 w)
  ·exact fin hd hh (by rw [hv']; exact h0 _ cap w)
end Go.Ab
namespace Go.Ab
open Go Go.RowKit Go.Proofs Go.Sh Go.En
def s75 (b:Nat) (l:List Int):CallSpec:={ args:=[.vec b],pre:=l.length<=65536,hin:=[(b,rowI 3 l)],res := .tup [],hout:=[(b,rowI 3 (JdE l))] }
theorem t75 (b:Nat) (l:List Int):Ja4 Tryz.prog 75 (s75 b l):=Ji2 Tryz.call75 3 b l (fun k cap w h1 h2 h3=>Tryz.slices_Sort_int k 0 cap l w h1 h2 h3) (fun p cap w=>Tryz.slices_Sort_int_none p cap w)
end Go.Ab
namespace Go.Sh
structure Strip where
 thick:Int
 many:Int
 deriving DecidableEq,Inhabited
structure Piece where
 lo:Int
 hi:Int
 pence:Int
 deriving DecidableEq,Inhabited
structure Frm where
 length:Int
 slack:Int
 strips:List Strip
 pieces:List Piece
 columns:List (List Int)
 deriving DecidableEq,Inhabited
def stp (f:Frm) (i:Nat):Strip:=f.strips.getD i default
def pc (f:Frm) (i:Nat):Piece:=f.pieces.getD i default
def col (f:Frm) (i:Nat):List Int:=f.columns.getD i []
def allC (f:Frm):List Int:=f.columns.flatten
def isPc (f:Frm) (n:Int):Bool:=Ja1 n 0 ((f.pieces.length:Int) - 1)
def JbE (s:Strip):Bool:=Ja1 s.thick 1 30 && Ja1 s.many 0 4
def JbF (p:Piece):Bool:=Ja1 p.hi 0 99 && Ja1 p.lo 0 p.hi && Ja1 p.pence 0 99
def Jcu (f:Frm):Bool:=Ja1 f.length 0 300 && Ja1 f.slack 0 9 && decide ((f.strips.length:Int)<=3) && decide ((f.pieces.length:Int)<=6) && decide ((f.columns.length:Int)<=3)
def cntL (l:List Int) (n:Int):Int:=((l.filter (fun x=>decide (x=n))).length:Int)
def Jem (f:Frm):Bool:=(List.range f.pieces.length).all (fun i=>decide (cntL (allC f) i=1)) && (allC f).all (isPc f)
def Jbj (f:Frm):Bool:=Jcu f && f.strips.all JbE && f.pieces.all JbF && Jem f
def Jao (f:Frm):Int:=if Jbj f then 0 else 30
def Jcl (f:Frm) (is:Bool):Int:=if Jbj f then (if is then 0 else 1) else 30
def Jjf (f:Frm) (set:List Int) (i:Nat):Bool:=Ja1 (set.getD i 0) 0 (stp f i).many
def isSet (f:Frm) (set:List Int):Bool:=decide (set.length=f.strips.length) && (List.range set.length).all (Jjf f set)
def Jfs (f:Frm) (s:Span) (p:Int):Span:=⟨s.lo + (pc f p.toNat).lo,s.hi + (pc f p.toNat).hi⟩
def Jax (f:Frm) (l:List Int):Span:=l.foldl (Jfs f) ⟨0,0⟩
def ptTo (f:Frm) (set:List Int) (n:Nat):Int:=(List.range n).foldl (fun a i=>a + set.getD i 0 * (stp f i).thick) 0
def JaA (f:Frm) (set:List Int):Int:=ptTo f set set.length
def Jen (f:Frm) (s:Span):Span:=⟨max 0 (f.length - f.slack - s.lo),f.length - s.hi⟩
def Jba (f:Frm):Prop:=f.strips.length<=Go.Ab.big/\f.pieces.length<=Go.Ab.big/\f.columns.length<=Go.Ab.big /\ ∀ i,(col f i).length<=Go.Ab.big
def Jai (f:Frm):Prop:=f.strips.length<=64/\f.pieces.length<=64/\f.columns.length<=64 /\ ∀ i,(col f i).length<=64
def okS (f:Frm) (n:Nat):Bool:=Jcu f && (List.range n).all (fun j=>JbE (stp f j))
def okP (f:Frm) (n:Nat):Bool:=okS f f.strips.length && (List.range n).all (fun j=>JbF (pc f j))
def JaT (f:Frm) (n k:Nat):List Int:=(f.columns.take n).flatten ++ (col f n).take k
def srt (f:Frm):List Int:=JdE (allC f)
structure Sound (f:Frm):Prop where
 len:0<=f.length/\f.length<=300
 slack:0<=f.slack/\f.slack<=9
 strips:f.strips.length<=3
 pieces:f.pieces.length<=6
 columns:f.columns.length<=3
 strip:∀ i,i < f.strips.length->1<=(stp f i).thick/\(stp f i).thick<=30/\0<=(stp f i).many/\(stp f i).many<=4
 piece:∀ i,i < f.pieces.length->0<=(pc f i).lo/\(pc f i).lo<=(pc f i).hi/\(pc f i).hi<=99/\0<=(pc f i).pence/\(pc f i).pence<=99
 colLen:∀ i,(col f i).length<=6
 colIn:∀ i k,k < (col f i).length->0<=(col f i).getD k 0/\(col f i).getD k 0 < f.pieces.length
def Jbn (f:Frm) (l:List Int):Prop:=l.length<=6 /\ ∀ k,k < l.length->0<=l.getD k 0/\l.getD k 0 < f.pieces.length
def nilF:Frm:=⟨0,0,[],[],[]⟩
def Jaz (f:Frm) (is:Bool):Frm:=if Jbj f && is then f else nilF
def JeI (f:Frm):Bool:=decide ((f.strips.length:Int) > 40) || decide ((f.pieces.length:Int) > 40) || decide ((f.columns.length:Int) > 40) || f.columns.any (fun l=>decide ((l.length:Int) > 40))
def Jcv (f:Frm) (n:Nat):Int:=(List.range n).foldl (fun a i=>a * ((stp f i).many + 1)) 1
def farF (f:Frm):Bool:=JeI f || (Jbj f && decide (Jcv f f.strips.length > 30))
def JaU (f:Frm) (h:Int):Bool:=Ja1 h (f.length - f.slack) f.length
def JdY (f:Frm) (c:Nat) (n:Int):Bool:=JaU f ((Jax f (col f c)).lo + n) && JaU f ((Jax f (col f c)).hi + n)
end Go.Sh
namespace Go.En
open Go Go.Ab Go.Sh
def JaK (s:Strip):List AV:=[iv s.thick,iv s.many]
def JaD (p:Piece):List AV:=[iv p.lo,iv p.hi,iv p.pence]
def cFrm (f:Frm):List AV:=[iv f.length,iv f.slack,.sl 2 f.strips.length (fun i=>JaK (stp f i)),.sl 3 f.pieces.length (fun i=>JaD (pc f i)),.sl 1 f.columns.length (fun i=>[Ja6 (col f i)])]
abbrev vFrm (f:Frm):AV := .agg (cFrm f)
end Go.En
namespace Go.Ab
open Go Go.RowKit Go.Proofs Go.Sh Go.En
def JpI (f:Frm):AV := .clo 59 [.rp (cFrm f)]
def h95a (f:Frm):Hint:={ X:=Nat,M:=fun x=>[(10,iv x)],H:=fun x=>[(0,.cells 27 [.vec 5000]),(5000,rowI 3 (JaT f x 0))],I:=fun x=>x<=f.columns.length,mu:=fun x=>f.columns.length - x,x0:=(0:Nat),nx:=fun x=>x + 1 }
def h95b (f:Frm) (x:Nat):Hint:={ X:=Nat,M:=fun k=>[(16,iv k)],H:=fun k=>[(0,.cells 27 [.vec 5000]),(5000,rowI 3 (JaT f x k))],I:=fun k=>k<=(col f x).length,mu:=fun k=>(col f x).length - k,x0:=(0:Nat),nx:=fun k=>k + 1 }
def r91 (f:Frm):RangeH:={ J:=Nat × Nat,ok:=fun j=>j.1 < f.columns.length/\j.2 < (col f j.1).length,Y:=fun j=>{ args:=[iv ((col f j.1).getD j.2 0)],hin:=[(0,.cells 27 [.vec 5000]),(5000,rowI 3 (JaT f j.1 j.2))],res:=bv true,hout:=[(0,.cells 27 [.vec 20160]),(20160,rowI 3 (JaT f j.1 (j.2 + 1)))] },hp:=[(0,.cells 27 [.vec 5000]),(5000,rowI 3 (allC f))] }
def y91 (f:Frm) (x k:Nat):CallSpec:=(r91 f).Y (x,k)
def ou91 (f:Frm):OutSpec:={ args:=[nilv,JpI f],pre:=Jai f,res := .vec 0,hout:=[(0,rowI 3 (allC f))] }
def s91o (f:Frm) (id:Nat):CallSpec:=(ou91 f).at [(0,id)]
def ou74 (f:Frm):OutSpec:={ args:=[JpI f],pre:=Jai f,res := .vec 0,hout:=[(0,rowI 3 (allC f))] }
def c74 (f:Frm) (id:Nat):CallSpec:=s91o f id
def s74o (f:Frm) (id:Nat):CallSpec:=(ou74 f).at [(0,id)]
def s58 (f:Frm):CallSpec:={ args:=[JpI f],pre:=Jai f,res:=Ja6 (srt f) }
def c58 (f:Frm) (id:Nat):CallSpec:=s74o f id
def cs58 (f:Frm):CallSpec:=s75 16 (allC f)
def s57 (n lo hi:Int):CallSpec:={ args:=[iv n,iv lo,iv hi],res:=bv (Ja1 n lo hi) }
def s17 (n lo hi:Int):CallSpec:={ args:=[iv n,iv lo,iv hi],res:=bv (Ja1 n lo hi) }
def s20 (f:Frm) (n:Int):CallSpec:={ args:=[vFrm f,iv n],res:=bv (isPc f n),pre:=Jba f }
def s65 (f:Frm) (l:List Int):CallSpec:={ args:=[vFrm f,Ja6 l],res:=Jjc (Jax f l),pre:=Sound f/\Jbn f l }
def h65 (f:Frm) (l:List Int):Hint:={ X:=Nat,M:=fun i=>[(9,iv i),(4,.ptr 5000 [])],H:=fun i=>[(5000,.cells 42 (Jb6 (Jax f (l.take i))))],I:=fun i=>i<=l.length,mu:=fun i=>l.length - i,x0:=(0:Nat),nx:=fun i=>i + 1 }
def s69 (f:Frm) (l:List Int):CallSpec:={ args:=[vFrm f,Ja6 l],res:=Jjc (Jax f l),pre:=Sound f/\Jbn f l }
def h69 (f:Frm) (l:List Int):Hint:={ X:=Nat,M:=fun i=>[(6,iv i),(5,.ptr 5000 [])],H:=fun i=>[(5000,.cells 42 (Jb6 (Jax f (l.take i))))],I:=fun i=>i<=l.length,mu:=fun i=>l.length - i,x0:=(0:Nat),nx:=fun i=>i + 1 }
def s78 (f:Frm) (set:List Int):CallSpec:={ args:=[vFrm f,Ja6 set],res:=iv (JaA f set),pre:=Sound f/\isSet f set=true }
def h78 (f:Frm) (set:List Int):Hint:={ X:=Nat,M:=fun i=>[(5,iv (ptTo f set i)),(10,iv i)],I:=fun i=>i<=set.length,mu:=fun i=>set.length - i,x0:=(0:Nat),nx:=fun i=>i + 1 }
def s51 (f:Frm) (set:List Int):CallSpec:={ args:=[vFrm f,Ja6 set],res:=iv (JaA f set),pre:=Sound f/\isSet f set=true }
def h51 (f:Frm) (set:List Int):Hint:={ X:=Nat,M:=fun i=>[(5,iv (ptTo f set i)),(6,iv i)],I:=fun i=>i<=set.length,mu:=fun i=>set.length - i,x0:=(0:Nat),nx:=fun i=>i + 1 }
def s64 (f:Frm) (s:Span):CallSpec:={ args:=[vFrm f,Jjc s],res:=Jjc (Jen f s),pre:=Sound f/\0<=s.lo/\s.lo<=s.hi/\s.hi<=1000 }
def s70 (f:Frm) (n:Int):CallSpec:={ args:=[vFrm f,iv n],res:=bv (JaU f n),pre:=Sound f }
def s19 (f:Frm) (p:Int):CallSpec:={ args:=[vFrm f,iv p],res:=iv (cntL (allC f) p),pre:=Jba f/\f.columns.length<=3 }
def h19a (f:Frm) (p:Int):Hint:={ X:=Nat,M:=fun c=>[(5,iv (cntL (JaT f c 0) p)),(6,iv c)],I:=fun c=>c<=f.columns.length,mu:=fun c=>f.columns.length - c,x0:=(0:Nat),nx:=fun c=>c + 1 }
def h19b (f:Frm) (p:Int) (c:Nat):Hint:={ X:=Nat,M:=fun k=>[(5,iv (cntL (JaT f c k) p)),(7,iv k)],I:=fun k=>k<=(col f c).length,mu:=fun k=>(col f c).length - k,x0:=(0:Nat),nx:=fun k=>k + 1 }
def s39 (f:Frm):CallSpec:={ args:=[vFrm f],res:=iv (Jao f),pre:=Jai f }
def h39a (f:Frm):Hint:={ X:=Nat,M:=fun i=>[(3,bv (okS f i)),(40,iv i)],I:=fun i=>i<=f.strips.length,mu:=fun i=>f.strips.length - i,x0:=(0:Nat),nx:=fun i=>i + 1 }
def h39b (f:Frm):Hint:={ X:=Nat,M:=fun i=>[(3,bv (okP f i)),(59,iv i)],I:=fun i=>i<=f.pieces.length,mu:=fun i=>f.pieces.length - i,x0:=(0:Nat),nx:=fun i=>i + 1 }
def h39c (f:Frm):Hint:={ X:=Nat,M:=fun i=>[(97,iv i)],I:=fun i=>i<=(srt f).length /\ ∀ j,j < i->(srt f).getD j 0=(j:Int),mu:=fun i=>(srt f).length - i,x0:=(0:Nat),nx:=fun i=>i + 1 }
def s5 (f:Frm):CallSpec:={ args:=[vFrm f],res:=iv (Jao f),pre:=Jba f }
def h5a (f:Frm):Hint:={ X:=Nat,M:=fun i=>[(3,iv i)],I:=fun i=>i<=f.strips.length /\ ∀ j,j < i->JbE (stp f j)=true,mu:=fun i=>f.strips.length - i,x0:=(0:Nat),nx:=fun i=>i + 1 }
def c5 (f:Frm) (x:Nat):CallSpec:=s18 ⟨(pc f x).lo,(pc f x).hi⟩ 99
def h5b (f:Frm):Hint:={ X:=Nat,M:=fun i=>[(4,iv i)],I:=fun i=>i<=f.pieces.length /\ ∀ j,j < i->JbF (pc f j)=true/\cntL (allC f) j=1,mu:=fun i=>f.pieces.length - i,x0:=(0:Nat),nx:=fun i=>i + 1 }
def h5c (f:Frm):Hint:={ X:=Nat,M:=fun i=>[(5,iv i)],I:=fun i=>i<=f.columns.length /\ ∀ j,j < i->(col f j).all (isPc f)=true,mu:=fun i=>f.columns.length - i,x0:=(0:Nat),nx:=fun i=>i + 1 }
def h5d (f:Frm) (c:Nat):Hint:={ X:=Nat,M:=fun i=>[(6,iv i)],I:=fun i=>i<=(col f c).length /\ ∀ j,j < i->isPc f ((col f c).getD j 0)=true,mu:=fun i=>(col f c).length - i,x0:=(0:Nat),nx:=fun i=>i + 1 }
def s26 (f:Frm) (is:Bool):CallSpec:={ args:=[vFrm f,bv is],res := .tup [vFrm (Jaz f is),iv (Jcl f is)],pre:=Jai f }
def s50 (f:Frm) (c:Nat) (n:Int):CallSpec:={ args:=[vFrm f,iv c,iv n],res:=bv (JdY f c n),pre:=Sound f/\c < f.columns.length /\ -1000<=n/\n<=1000 }
def s16 (f:Frm):CallSpec:={ args:=[vFrm f],res:=bv (JeI f),pre:=Jba f }
def h16 (f:Frm):Hint:={ X:=Nat,M:=fun i=>[(3,iv i)],I:=fun i=>i<=f.columns.length /\ ∀ j,j < i->decide (((col f j).length:Int) > 40)=false,mu:=fun i=>f.columns.length - i,x0:=(0:Nat),nx:=fun i=>i + 1 }
def s4 (f:Frm):CallSpec:={ args:=[vFrm f],res:=bv (farF f),pre:=Jba f }
def h4 (f:Frm):Hint:={ X:=Nat,M:=fun i=>[(3,iv (Jcv f i)),(4,iv i)],I:=fun i=>i<=f.strips.length,mu:=fun i=>f.strips.length - i,x0:=(0:Nat),nx:=fun i=>i + 1 }
end Go.Ab
namespace Go.Sh
open Go.Ab
theorem JeN (f:Frm) {c k:Nat} (h:k < (col f c).length):JaT f c (k + 1)=JaT f c k ++ [(col f c).getD k 0]:=by
 unfold JaT; rw [JaV _ 0 h,List.append_assoc]
theorem Jh9 (f:Frm) {c k:Nat} (h:c < f.columns.length) (hk:(col f c).length<=k):JaT f c k=JaT f (c + 1) 0:=by
 unfold JaT
 rw [JaV _ [] h,List.flatten_append,List.take_of_length_le hk]
 simp [col]
theorem Jjg (f:Frm) {c:Nat} (h:f.columns.length<=c):JaT f c 0=allC f:=by
 unfold JaT allC; rw [List.take_of_length_le h]; simp
theorem JjP (l:List (List Int)) (b:Nat) (h:∀ i,(l.getD i []).length<=b):l.flatten.length<=l.length * b:=by
 induction l with
 | nil=>simp
 | cons x l ih =>
  have h0:=h 0
  have h1:=ih (fun i=>h (i + 1))
  simp only [List.flatten_cons,List.length_append,List.length_cons,Nat.add_mul,Nat.one_mul] at *
  simp only [List.getD_cons_zero] at h0
  omega
theorem Ji3 (l:List (List Int)) (b c:Nat) (h:∀ i,(l.getD i []).length<=b):∀ i,((l.take c).getD i []).length<=b:=by
 intro i
 rw [List.getD_eq_getElem?_getD,List.getElem?_take]
 split
 ·have:=h i; rwa [List.getD_eq_getElem?_getD] at this
 ·simp
theorem Jml (f:Frm) (c k n b:Nat) (hn:f.columns.length<=n) (hb:∀ i,(col f i).length<=b):(JaT f c k).length<=n * b + b:=by
 unfold JaT
 rw [List.length_append,List.length_take]
 have h1:=JjP (f.columns.take c) b (Ji3 _ _ _ hb)
 have h2:(f.columns.take c).length * b<=n * b:=Nat.mul_le_mul_right _ (by rw [List.length_take]; omega)
 have h3:=hb c
 omega
theorem JjQ (f:Frm) (n b:Nat) (hn:f.columns.length<=n) (hb:∀ i,(col f i).length<=b):(allC f).length<=n * b:=by
 have h1:=JjP f.columns b hb
 exact Nat.le_trans h1 (Nat.mul_le_mul_right _ hn)
theorem JjR (l:List Int) (x n:Int):cntL (l ++ [x]) n=cntL l n + (if x=n then 1 else 0):=by
 unfold cntL
 rw [List.filter_append,List.length_append]
 by_cases h:x=n <;> simp [h]
theorem JpJ (l:List Int) (n:Int):0<=cntL l n/\cntL l n<=l.length:=by
 unfold cntL
 have:=List.length_filter_le (fun x=>decide (x=n)) l
 omega
theorem Ji4 (l:List Int) (n:Int):cntL l n=(l.count n:Int):=by
 unfold cntL
 rw [← List.countP_eq_length_filter]
 congr 1
theorem JbL (f:Frm) (l:List Int) {k:Nat} (h:k < l.length):Jax f (l.take (k + 1))=Jfs f (Jax f (l.take k)) (l.getD k 0):=by
 unfold Jax; rw [JaV _ 0 h,List.foldl_append]; rfl
theorem Jbv {f:Frm} (hs:Sound f) {l:List Int} (hl:Jbn f l):∀ k,k<=l.length->0<=(Jax f (l.take k)).lo/\(Jax f (l.take k)).lo<=(Jax f (l.take k)).hi/\(Jax f (l.take k)).hi<=99 * k:=by
 intro k
 induction k with
 | zero=>intro _; exact ⟨Int.le_refl 0,Int.le_refl 0,Int.le_refl 0⟩
 | succ k ih =>
  intro h
  obtain ⟨h1,h2,h3⟩:=ih (by omega)
  obtain ⟨g1,g2⟩:=hl.2 k (by omega)
  have:=hs.piece (l.getD k 0).toNat (by omega)
  rw [JbL f l (by omega)]
  simp only [Jfs]
  omega
theorem high_bound' {f:Frm} (hs:Sound f) {l:List Int} (hl:Jbn f l):0<=(Jax f l).lo/\(Jax f l).lo<=(Jax f l).hi/\(Jax f l).hi<=594:=by
 have h:=Jbv hs hl l.length (Nat.le_refl _)
 rw [List.take_of_length_le (Nat.le_refl _)] at h
 have:=hl.1
 omega
theorem Jc5 {f:Frm} (hs:Sound f) (c:Nat):Jbn f (col f c):=⟨hs.colLen c,fun k hk=>hs.colIn c k hk⟩
theorem JbV {f:Frm} {set:List Int} (h:isSet f set=true):set.length=f.strips.length /\ ∀ k,k < set.length->0<=set.getD k 0/\set.getD k 0<=(stp f k).many:=by
 simp only [isSet,Bool.and_eq_true,decide_eq_true_eq,List.all_eq_true,List.mem_range,Jjf,JaB] at h
 exact h
theorem Jjh (f:Frm) (set:List Int) (n:Nat):ptTo f set (n + 1)=ptTo f set n + set.getD n 0 * (stp f n).thick:=JcX _ _ _
theorem Jft {f:Frm} (hs:Sound f) {set:List Int} (h:isSet f set=true) {k:Nat} (hk:k < set.length):0<=set.getD k 0 * (stp f k).thick/\set.getD k 0 * (stp f k).thick<=120:=by
 obtain ⟨h1,h2⟩:=JbV h
 obtain ⟨g1,g2⟩:=h2 k hk
 have g3:=hs.strip k (by omega)
 refine ⟨Int.mul_nonneg g1 (by omega),?_⟩
 calc set.getD k 0 * (stp f k).thick<=4 * 30:=Int.mul_le_mul (by omega) (by omega) (by omega) (by omega)
  _=120:=by decide
theorem Jha {f:Frm} (hs:Sound f) {set:List Int} (h:isSet f set=true):∀ k,k<=set.length->0<=ptTo f set k/\ptTo f set k<=120 * k:=by
 intro k
 induction k with
 | zero=>intro _; exact ⟨Int.le_refl 0,Int.le_refl 0⟩
 | succ k ih =>
  intro hk
  have h1:=ih (by omega)
  have h2:=Jft hs h (k:=k) (by omega)
  rw [Jjh]
  omega
theorem Ji5 {f:Frm} (hs:Sound f) {set:List Int} (h:isSet f set=true):0<=JaA f set/\JaA f set<=360:=by
 have h1:=Jha hs h set.length (Nat.le_refl _)
 have h2:=(JbV h).1
 have h3:=hs.strips
 unfold JaA
 omega
theorem Jhb (f:Frm):(srt f).Perm (allC f):=List.mergeSort_perm _ _
theorem Jmm (f:Frm):(srt f).length=(allC f).length:=(Jhb f).length_eq
def JeJ (n:Nat):List Int:=(List.range n).map (fun i:Nat=>(i:Int))
theorem JdZ (n:Nat):(JeJ n).length=n:=by simp [JeJ]
theorem JjS {n k:Nat} (h:k < n):(JeJ n).getD k 0=(k:Int):=by
 rw [Jaf _ _ (by rw [JdZ]; exact h)]; simp [JeJ]
theorem Jgo (n:Nat) (a:Int):(JeJ n).count a=if 0<=a/\a < n then 1 else 0:=by
 have hn:(JeJ n).Nodup:=by
  unfold JeJ
  rw [List.nodup_iff_pairwise_ne,List.pairwise_map]
  exact List.pairwise_lt_range.imp (fun h=>by omega)
 rw [hn.count]
 congr 1
 simp only [JeJ,List.mem_map,List.mem_range,eq_iff_iff]
 constructor
 ·rintro ⟨k,hk,rfl⟩; omega
 ·intro h; exact ⟨a.toNat,by omega,by omega⟩
theorem JjT {f:Frm} (h:Jem f=true):srt f=JeJ f.pieces.length:=by
 simp only [Jem,Bool.and_eq_true,List.all_eq_true,List.mem_range,decide_eq_true_eq] at h
 have hp:(allC f).Perm (JeJ f.pieces.length):=by
  rw [List.perm_iff_count]
  intro a
  rw [Jgo]
  split
  ·have:=h.1 a.toNat (by omega)
   rw [show ((a.toNat:Nat):Int)=a by omega,Ji4] at this
   omega
  ·refine List.count_eq_zero.2 fun hm => ?_
   have:=h.2 a hm
   simp only [isPc,JaB] at this
   omega
 refine List.Perm.eq_of_pairwise (le:=fun a b:Int=>a<=b) (fun a b _ _ h1 h2=>by omega) ?_ ?_ ((Jhb f).trans hp)
 ·have:=List.pairwise_mergeSort (le:=fun a b:Int=>decide (a<=b)) (fun a b c h1 h2=>by simp only [decide_eq_true_eq] at *; omega) (fun a b=>by simp only [Bool.or_eq_true,decide_eq_true_eq]; omega) (allC f)
  exact this.imp (fun h=>by simpa using h)
 ·unfold JeJ
  rw [List.pairwise_map]
  exact List.pairwise_lt_range.imp (fun h=>by omega)
theorem JkN {f:Frm} (h1:(srt f).length=f.pieces.length) (h2:∀ j,j < (srt f).length->(srt f).getD j 0=(j:Int)):Jem f=true:=by
 have he:srt f=JeJ f.pieces.length:=Joa 0 (by rw [h1,JdZ]) (fun j hj=>by rw [h2 j hj,JjS (by omega)])
 have hc:∀ a,(allC f).count a=if 0<=a/\a < f.pieces.length then 1 else 0:=fun a=>by
  rw [← Jgo,← he]; exact ((Jhb f).count_eq a).symm
 simp only [Jem,Bool.and_eq_true,List.all_eq_true,List.mem_range,decide_eq_true_eq]
 refine ⟨fun i hi => ?_,fun x hx => ?_⟩
 ·rw [Ji4,hc,if_pos (by omega)]; rfl
 ·have h3:=List.count_pos_iff.2 hx
  rw [hc] at h3
  simp only [isPc,JaB]
  split at h3 <;> omega
theorem Jmn {f:Frm} {j:Nat} (h:(srt f).length ≠ f.pieces.length ∨ (j < (srt f).length/\(srt f).getD j 0 ≠ (j:Int))):Jem f=false:=by
 cases e:Jem f with
 | false=>rfl
 | true =>
  have he:=JjT e
  rcases h with h | ⟨h1,h2⟩
  ·exact absurd (by rw [he,JdZ]) h
  ·rw [he,JdZ] at h1
   exact absurd (by rw [he,JjS h1]) h2
theorem JbB {f:Frm} (h:Jbj f=false):Jao f=30:=by simp [Jao,h]
theorem Jdq {f:Frm} (h:Jbj f=true):Jao f=0:=by simp [Jao,h]
theorem Jdr {f:Frm}:Jao f=0 ↔ Jbj f=true:=by unfold Jao; cases Jbj f <;> simp
theorem Joc (f:Frm):okS f 0=Jcu f:=by simp [okS]
theorem Jod (f:Frm) (n:Nat):okS f (n + 1)=(okS f n && JbE (stp f n)):=by
 unfold okS; rw [List.range_succ,List.all_append,← Bool.and_assoc]; simp
theorem Joe (f:Frm):okP f 0=okS f f.strips.length:=by simp [okP]
theorem Jof (f:Frm) (n:Nat):okP f (n + 1)=(okP f n && JbF (pc f n)):=by
 unfold okP; rw [List.range_succ,List.all_append,← Bool.and_assoc]; simp
theorem Ji6 {α:Type} (l:List α) (d:α) (p:α->Bool):(List.range l.length).all (fun j=>p (l.getD j d))=l.all p:=by
 rw [Bool.eq_iff_iff]
 constructor
 ·intro h
  rw [List.all_eq_true] at h
  exact JdD l d p (fun j hj=>h j (List.mem_range.2 hj))
 ·intro h
  rw [List.all_eq_true]
  intro j hj
  exact Jde d h (List.mem_range.1 hj)
theorem JeO (f:Frm):Jbj f=(okP f f.pieces.length && Jem f):=by
 unfold Jbj okP okS
 rw [← Ji6 f.strips default JbE,← Ji6 f.pieces default JbF]
 rfl
theorem JpK {f:Frm} (h:okP f f.pieces.length=false):Jbj f=false:=by rw [JeO,h]; rfl
theorem Je0 {f:Frm} (h:Jem f=false):Jbj f=false:=by rw [JeO,h,Bool.and_false]
theorem JkO {f:Frm} (h:Jcu f=false):Jbj f=false:=by simp [Jbj,h]
theorem Jji {f:Frm} {x:Nat} (hx:x < f.strips.length) (h:JbE (stp f x)=false):Jbj f=false:=by
 have:=Jh5 f.strips default JbE hx h
 simp [Jbj,this]
theorem Jjj {f:Frm} {x:Nat} (hx:x < f.pieces.length) (h:JbF (pc f x)=false):Jbj f=false:=by
 have:=Jh5 f.pieces default JbF hx h
 simp [Jbj,this]
theorem Jmo {f:Frm} {x:Nat} (hx:x < f.pieces.length) (h:cntL (allC f) x ≠ 1):Jbj f=false:=by
 refine Je0 ?_
 unfold Jem
 have:(List.range f.pieces.length).all (fun i=>decide (cntL (allC f) i=1))=false:=by
  rw [List.all_eq_false]; exact ⟨x,List.mem_range.2 hx,by simpa using h⟩
 rw [this]; rfl
theorem JjU (l:List (List Int)) (p:Int->Bool):l.flatten.all p=l.all (fun x=>x.all p):=by
 induction l with
 | nil=>rfl
 | cons x l ih=>simp [List.all_append,ih]
theorem Jog {f:Frm} {c:Nat} (hc:c < f.columns.length) (h:(col f c).all (isPc f)=false):Jbj f=false:=by
 refine Je0 ?_
 unfold Jem allC
 rw [JjU,Jh5 f.columns [] (fun x=>x.all (isPc f)) hc h,Bool.and_false]
theorem Joh {f:Frm} (h:Jcu f=true) (h1:∀ j,j < f.strips.length->JbE (stp f j)=true) (h2:∀ j,j < f.pieces.length->JbF (pc f j)=true/\cntL (allC f) j=1) (h3:∀ j,j < f.columns.length->(col f j).all (isPc f)=true):Jbj f=true:=by
 have a:=JdD f.strips default JbE h1
 have b:=JdD f.pieces default JbF (fun j hj=>(h2 j hj).1)
 have c:=JdD f.columns [] (fun x=>x.all (isPc f)) h3
 have d:(List.range f.pieces.length).all (fun i=>decide (cntL (allC f) i=1))=true:=by
  rw [List.all_eq_true]; intro i hi; simpa using (h2 i (List.mem_range.1 hi)).2
 simp only [Jbj,Jem,allC,JjU,h,a,b,c,Bool.and_self]
 simpa [allC] using d
theorem JpL {f:Frm} {c k:Nat} (h:k < (col f c).length):(col f c).getD k 0 ∈ allC f:=by
 unfold allC
 rw [List.mem_flatten]
 by_cases hc:c < f.columns.length
 ·exact ⟨col f c,Jbc _ _ hc,Jbc _ _ h⟩
 ·have:col f c = []:=JbY _ _ (by omega)
  rw [this] at h; simp at h
theorem Jds {f:Frm} (h:Jbj f=true):Sound f:=by
 have hl:(allC f).length=f.pieces.length:=by
  rw [JeO,Bool.and_eq_true] at h
  rw [← Jmm,JjT h.2,JdZ]
 simp only [Jbj,Bool.and_eq_true,Jcu,JaB,decide_eq_true_eq,Jem] at h
 obtain ⟨⟨⟨⟨⟨⟨⟨h1,h2⟩,h3⟩,h4⟩,h5⟩,h6⟩,h7⟩,h8,h9⟩:=h
 refine ⟨h1,h2,by omega,by omega,by omega,fun i hi => ?_,fun i hi => ?_,fun i => ?_,fun i k hk => ?_⟩
 ·have:=Jde default h6 hi
  simp only [JbE,Bool.and_eq_true,JaB] at this
  exact ⟨this.1.1,this.1.2,this.2.1,this.2.2⟩
 ·have:=Jde default h7 hi
  simp only [JbF,Bool.and_eq_true,JaB] at this
  exact ⟨this.1.2.1,this.1.2.2,this.1.1.2,this.2.1,this.2.2⟩
 ·by_cases hi:i < f.columns.length
  ·have:(col f i).length<=(allC f).length:=by
    unfold allC
    have hm:col f i ∈ f.columns:=Jbc _ _ hi
    exact (List.sublist_flatten_of_mem hm).length_le
   omega
  ·have:col f i = []:=JbY _ _ (by omega)
   rw [this]; simp
 ·rw [List.all_eq_true] at h9
  have:=h9 _ (JpL hk)
  simp only [isPc,JaB] at this
  omega
theorem Jmp {f:Frm} (h:Jbj f=true):Jaz f true=f:=by simp [Jaz,h]
theorem Je1 (f:Frm) (n:Nat):Jcv f (n + 1)=Jcv f n * ((stp f n).many + 1):=JcX _ _ _
theorem JkP {f:Frm} (hs:Sound f):∀ n,n<=f.strips.length->1<=Jcv f n/\Jcv f n<=5 ^ n:=by
 intro n
 induction n with
 | zero=>intro _; exact ⟨Int.le_refl 1,Int.le_refl 1⟩
 | succ n ih =>
  intro h
  obtain ⟨h1,h2⟩:=ih (by omega)
  have h3:=hs.strip n (by omega)
  rw [Je1,Int.pow_succ]
  refine ⟨?_,Int.mul_le_mul h2 (by omega) (by omega) (by omega)⟩
  calc (1:Int)=1 * 1:=rfl
   _<=Jcv f n * ((stp f n).many + 1):=Int.mul_le_mul h1 (by omega) (by omega) (by omega)
theorem JpM {f:Frm} (hs:Sound f) {n:Nat} (h:n < f.strips.length):inI (Jcv f n * ((stp f n).many + 1)):=by
 rw [← Je1]
 obtain ⟨h1,h2⟩:=JkP hs (n + 1) (by omega)
 have h3:=hs.strips
 have h4:(5:Int) ^ (n + 1)<=125:=by
  have:n=0 ∨ n=1 ∨ n=2:=by omega
  rcases this with rfl | rfl | rfl <;> decide
 exact ⟨by omega,by omega⟩
end Go.Sh
namespace Go.Ab
open Go Go.RowKit Go.Proofs Go.Sh Go.En
abbrev q8 (f:Frm) (Pq:Prop):Prop:=Jai f->Pq
abbrev q9 (f:Frm) (x1:Nat) (Pq:Prop):Prop:=x1<=f.columns.length->Pq
abbrev qa (f:Frm) (x1:Nat) (Pq:Prop):Prop:=q9 f x1 (decide ((x1:Int) < (↑(f.columns.length):Int))=true->Pq)
abbrev qb (f:Frm) (x1:Nat) (x3:Nat) (Pq:Prop):Prop:=x3<=(col f x1).length->Pq
abbrev qc (f:Frm) (x1:Nat) (x3:Nat) (Pq:Prop):Prop:=qb f x1 x3 (decide ((x3:Int) < (↑((col f x1).length):Int))=true->Pq)
abbrev qd (f:Frm) (x1:Nat) (x3:Nat) (Pq:Prop):Prop:=qb f x1 x3 (decide ((x3:Int) < (↑((col f x1).length):Int))=false->Pq)
abbrev qe (f:Frm) (j0:Nat × Nat) (Pq:Prop):Prop:=j0.1 < f.columns.length/\j0.2 < (col f j0.1).length->True->Pq
theorem wo91 (f:Frm)
 (o0:q8 f (0=(↑0:Int)))
 (o1:q8 f (List.length (JaT f 0 0)=0))
 (o2:q8 f (0<=List.length (Frm.columns f)))
 (o3:q8 f (∀ (x1:Nat),qa f x1 (0<=(x1:Int))))
 (o4:q8 f (∀ (x1:Nat),qa f x1 ((x1:Int) < (↑(f.columns.length):Int))))
 (o5:q8 f (∀ (x1:Nat),qa f x1 (0=(↑0:Int))))
 (o6:q8 f (∀ (x1:Nat),qa f x1 (0<=(col f x1).length)))
 (o7:q8 f (∀ (x1:Nat),qa f x1 (∀ (x3:Nat),qc f x1 x3 (0<=(x3:Int)))))
 (o8:q8 f (∀ (x1:Nat),qa f x1 (∀ (x3:Nat),qc f x1 x3 ((x3:Int) < (↑((col f x1).length):Int)))))
 (o9:q8 f (∀ (x1:Nat),qa f x1 (∀ (x3:Nat),qc f x1 x3 ((x1,x3).1 < f.columns.length/\(x1,x3).2 < (col f (x1,x3).1).length))))
 (o10:q8 f (∀ (x1:Nat),qa f x1 (∀ (x3:Nat),qc f x1 x3 (inI ((x3:Int) + 1)))))
 (o11:q8 f (∀ (x1:Nat),qa f x1 (∀ (x3:Nat),qc f x1 x3 ((x3:Int) + 1=(↑(x3 + 1):Int)))))
 (o12:q8 f (∀ (x1:Nat),qa f x1 (∀ (x3:Nat),qc f x1 x3 (x3 + 1<=(col f x1).length))))
 (o13:q8 f (∀ (x1:Nat),qa f x1 (∀ (x3:Nat),qc f x1 x3 ((col f x1).length - (x3 + 1) < (col f x1).length - x3))))
 (o14:q8 f (∀ (x1:Nat),qa f x1 (∀ (x3:Nat),qd f x1 x3 (inI ((x1:Int) + 1)))))
 (o15:q8 f (∀ (x1:Nat),qa f x1 (∀ (x3:Nat),qd f x1 x3 ((x1:Int) + 1=(↑(x1 + 1):Int)))))
 (o16:q8 f (∀ (x1:Nat),qa f x1 (∀ (x3:Nat),qd f x1 x3 ((JaT f x1 x3).length=(JaT f (x1 + 1) 0).length))))
 (o17:q8 f (∀ (x1:Nat),qa f x1 (∀ (x3:Nat),qd f x1 x3 (∀ (i7:Nat),i7 < (JaT f x1 x3).length -> [iv ((JaT f x1 x3).getD i7 0)] = [iv ((JaT f (x1 + 1) 0).getD i7 0)]))))
 (o18:q8 f (∀ (x1:Nat),qa f x1 (∀ (x3:Nat),qd f x1 x3 (x1 + 1<=f.columns.length))))
 (o19:q8 f (∀ (x1:Nat),qa f x1 (∀ (x3:Nat),qd f x1 x3 (f.columns.length - (x1 + 1) < f.columns.length - x1))))
 (o20:q8 f (∀ (x1:Nat),q9 f x1 (decide ((x1:Int) < (↑(f.columns.length):Int))=false->(JaT f x1 0).length=(allC f).length)))
 (o21:q8 f (∀ (x1:Nat),q9 f x1 (decide ((x1:Int) < (↑(f.columns.length):Int))=false -> ∀ (i9:Nat),i9 < (JaT f x1 0).length -> [iv ((JaT f x1 0).getD i9 0)] = [iv ((allC f).getD i9 0)])))
 (o22:q8 f (∀ (j0:Nat × Nat),qe f j0 ((JaT f j0.1 j0.2).length + 1<=65536)))
 (o23:q8 f (∀ (j0:Nat × Nat),qe f j0 ((JaT f j0.1 j0.2).length + 1=(JaT f j0.1 (j0.2 + 1)).length)))
 (o24:q8 f (∀ (j0:Nat × Nat),qe f j0 (∀ (i11:Nat),i11 < (JaT f j0.1 j0.2).length + 1->catF (JaT f j0.1 j0.2).length (fun (i:Nat)=>[iv ((JaT f j0.1 j0.2).getD i 0)]) (fun (j:Nat)=>List.getD [[iv ((col f j0.1).getD j0.2 0)]] j (TI.za ti3)) i11 = [iv ((JaT f j0.1 (j0.2 + 1)).getD i11 0)])))
  (l:List (Nat × Nat)) (hl:l.map (·.1)=(OutSpec.hout (ou91 f)).map (·.1)) (hnd:(l.map (·.2)).Nodup) :
  Ja4 Tryz.prog 91 (OutSpec.at (ou91 f) l):=by
 refine Jbu Tryz.func91 rfl Tryz.call91 Jaw _ _ _ _ l rfl (Nat.le_of_ble_eq_true (by kernel_rfl)) hl hnd (by kernel_rfl) (by kernel_rfl) (by kernel_rfl) ?_
 intro hpre C hC hE
 obtain ⟨P,w0,E0,av,hA,ro,df⟩:=C
 obtain ⟨rfl,rfl,rfl⟩:=hC
 refine Ja0 ?_
 refine zR [1,2] [0] (Ak 2 tv) ?_
 refine Ja0 ?_
 refine Ja0 ?_
 refine zR [2,6] [0] (Ak 1 tv) ?_
 refine Ja2 ?_
 refine zG (r91 f) 24 2000024 0 [2] ([AV.rp (cFrm f)]) Tryz.func59 Tryz.call59 rfl (fun C hC hY0 hE => ?_) (fun (j0:Nat × Nat) hj0 hp0 C hC hE => ?_) ?_
 ·obtain ⟨P,w0,E0,av,hA,ro,df⟩:=C
  subst hC
  refine Ja0 ?_
  refine zR [0,8,9,10] [0] (Ak 4 tv) ?_
  refine Ja2 ?_
  refine zL (Hint.ann (h95a f) [(0,AV.fn 0),(8,AV.sl 1 f.columns.length fun (i:Nat)=>[Ja6 (col f i)]),(9,iv (↑(f.columns.length):Int))] [] 10056) (zEn 24 hE [] [(0,.same 0),(5000,.nil)] [0,8,9] [] (An (An (An (zr (AV.fn 0)) (zr true)) (An (An (zr (AV.sl 1 f.columns.length fun (i:Nat)=>[Ja6 (col f i)])) (zr true)) (An (An (zr (iv (↑(f.columns.length):Int))) (zr true)) (An (An (ci (o0 hpre)) (zr nilN)) tv)))) (An (An (An (zr 27) (An (An (zr (some Src.nil)) tv) (zr true))) (An (o1 hpre) tv)) (An (zr true) (zr true))))) (o2 hpre) (fun (x1:Nat) hx1 => ?_)
  refine Ja0 ?_
  refine zR [0,8,9,10,11] [0,5000] (Ak 1 tv) ?_
  refine Ja0 ?_
  refine zI (decide ((x1:Int) < (↑(f.columns.length):Int))) (fun y2 => ?_) (fun y2 => ?_)
  ·refine Ja3 ?_
   refine Ja0 ?_
   refine Ja2 ?_
   refine Ja0 ?_
   refine zR [0,8,9,10,4] [0,5000] (An (An (o3 hpre x1 hx1 y2) (o4 hpre x1 hx1 y2)) (Ak 2 tv)) ?_
   refine Ja0 ?_
   refine zR [0,8,9,10,14,15,16] [0,5000] (Ak 3 tv) ?_
   refine Ja2 ?_
   refine zL (Hint.ann (h95b f x1) [(0,AV.fn 0),(8,AV.sl 1 f.columns.length fun (i:Nat)=>[Ja6 (col f i)]),(9,iv (↑(f.columns.length):Int)),(10,iv (x1:Int)),(14,Ja6 (col f x1)),(15,iv (↑((col f x1).length):Int))] [] 20112) (zEn 24 hE [] [(0,.same 0),(5000,.same 5000)] [0,8,9,10,14,15] [5000] (An (An (An (zr (AV.fn 0)) (zr true)) (An (An (zr (AV.sl 1 f.columns.length fun (i:Nat)=>[Ja6 (col f i)])) (zr true)) (An (An (zr (iv (↑(f.columns.length):Int))) (zr true)) (An (An (zr (iv (x1:Int))) (zr true)) (An (An (zr (Ja6 (col f x1))) (zr true)) (An (An (zr (iv (↑((col f x1).length):Int))) (zr true)) (An (An (ci (o5 hpre x1 hx1 y2)) (zr nilN)) tv))))))) (An (An (An (zr 27) (An (An (zr (some (Src.same 5000))) tv) (zr true))) (An (An (zr (OB.vec 3 1 (JaT f x1 0).length fun (i:Nat)=>[iv ((JaT f x1 0).getD i 0)])) (zr true)) tv)) (An (zr true) (zr true))))) (o6 hpre x1 hx1 y2) (fun (x3:Nat) hx3 => ?_)
   refine Ja0 ?_
   refine zR [0,8,9,10,14,15,16,17] [0,5000] (Ak 1 tv) ?_
   refine Ja0 ?_
   refine zI (decide ((x3:Int) < (↑((col f x1).length):Int))) (fun y4 => ?_) (fun y4 => ?_)
   ·refine Ja3 ?_
    refine Ja0 ?_
    refine Ja2 ?_
    refine Ja0 ?_
    refine zR [0,8,9,10,14,15,16,6] [0,5000] (An (An (o7 hpre x1 hx1 y2 x3 hx3 y4) (o8 hpre x1 hx1 y2 x3 hx3 y4)) (Ak 2 tv)) ?_
    refine Ja0 ?_
    refine zC ([(2,CallSpec.eq (y91 f x1 x3) [true])]) [0,8,9,10,14,15,16,23] [0,20160] (Ak 2 (An (An (An (zr (iv ((col f x1).getD x3 0))) tv) (An (hY0 ((x1,x3)) (o9 hpre x1 hx1 y2 x3 hx3 y4)) (Ak 1 (An (zr (some (OB.cells 27 [AV.vec 5000]))) (An (zr (some (OB.vec 3 1 (JaT f x1 x3).length fun (i:Nat)=>[iv ((JaT f x1 x3).getD i 0)]))) tv))))) (Ak 1 tv))) ?_
    refine zf ?_
    refine Ja3 ?_
    refine zR [0,8,9,10,14,15,16] [0,20160] (An (o10 hpre x1 hx1 y2 x3 hx3 y4) (Ak 1 tv)) ?_
    exact zn (zEn 24 hE [] [(0,.same 0),(5000,.same 20160)] [0,8,9,10,14,15] [] (An (An (An (zr (AV.fn 0)) (zr true)) (An (An (zr (AV.sl 1 f.columns.length fun (i:Nat)=>[Ja6 (col f i)])) (zr true)) (An (An (zr (iv (↑(f.columns.length):Int))) (zr true)) (An (An (zr (iv (x1:Int))) (zr true)) (An (An (zr (Ja6 (col f x1))) (zr true)) (An (An (zr (iv (↑((col f x1).length):Int))) (zr true)) (An (An (ci (o11 hpre x1 hx1 y2 x3 hx3 y4)) (zr nilN)) tv))))))) (An (An (An (zr 27) (An (An (zr (some (Src.same 20160))) tv) (zr true))) (An (An (zr 3) (An (zr 1) (An (zr (JaT f x1 (x3 + 1)).length) (fun (i5:Nat)=>(fun (y6:i5 < (JaT f x1 (x3 + 1)).length)=>(zr ([iv ((JaT f x1 (x3 + 1)).getD i5 0)]))))))) tv)) (An (zr true) (zr true))))) (o12 hpre x1 hx1 y2 x3 hx3 y4) (o13 hpre x1 hx1 y2 x3 hx3 y4)
   ·refine Jaa ?_
    refine zR [0,8,9,10] [0,5000] (An (o14 hpre x1 hx1 y2 x3 hx3 y4) (Ak 1 tv)) ?_
    exact zn (zEn 24 hE [] [(0,.same 0),(5000,.same 5000)] [0,8,9] [] (An (An (An (zr (AV.fn 0)) (zr true)) (An (An (zr (AV.sl 1 f.columns.length fun (i:Nat)=>[Ja6 (col f i)])) (zr true)) (An (An (zr (iv (↑(f.columns.length):Int))) (zr true)) (An (An (ci (o15 hpre x1 hx1 y2 x3 hx3 y4)) (zr nilN)) tv)))) (An (An (An (zr 27) (An (An (zr (some (Src.same 5000))) tv) (zr true))) (An (An (zr 3) (An (zr 1) (An (o16 hpre x1 hx1 y2 x3 hx3 y4) (fun (i7:Nat)=>(fun (y8:i7 < (JaT f x1 x3).length)=>(o17 hpre x1 hx1 y2 x3 hx3 y4 i7 y8)))))) tv)) (An (zr true) (zr true))))) (o18 hpre x1 hx1 y2 x3 hx3 y4) (o19 hpre x1 hx1 y2 x3 hx3 y4)
  ·refine Jaa ?_
   exact zm (zEn 24 hE [] [(0,.same 0),(5000,.same 5000)] [] [] (Ak 1 (An (An (An (zr 27) (An (An (zr (some (Src.same 5000))) tv) (zr true))) (An (An (zr 3) (An (zr 1) (An (o20 hpre x1 hx1 y2) (fun (i9:Nat)=>(fun (y10:i9 < (JaT f x1 0).length)=>(o21 hpre x1 hx1 y2 i9 y10)))))) tv)) (An (zr true) (zr true)))))
 ·obtain ⟨P,w0,E0,av,hA,ro,df⟩:=C
  subst hC
  refine zR [2,5] [0,5000] (Ak 1 tv) ?_
  intro C hC hE
  obtain ⟨P,w0,E0,av,hA,ro,df⟩:=C
  subst hC
  refine Ja2 ?_
  refine zR [] [0,6032] (Ak 3 (An (o22 hpre j0 hj0 hp0) (Ak 1 tv))) ?_
  exact zN 1006000 (zEn 6000 hE [] [(0,.same 0),(20160,.same 6032)] [] [] (Ak 1 (An (An (An (zr 27) (An (An (zr (some (Src.same 6032))) tv) (zr true))) (An (An (zr 3) (An (zr 1) (An (o23 hpre j0 hj0 hp0) (fun (i11:Nat)=>(fun (y12:i11 < (JaT f j0.1 j0.2).length + 1)=>(o24 hpre j0 hj0 hp0 i11 y12)))))) tv)) (An (zr true) (zr true)))))
 ·refine Ja0 ?_
  refine zR [4] [5000] (Ak 2 tv) ?_
  refine Ja5 ?_
  exact zO (ASt.mk [(4,AV.vec 0)] [(0,OB.vec 3 1 (allC f).length fun (i:Nat)=>[iv ((allC f).getD i 0)])] 100) (zE hE [] [(0,.same 5000)] [] [] (An (An (zr (some (Src.same 5000))) tv) (An (An (An (zr 3) (An (zr 1) (An (zr (allC f).length) (fun (i13:Nat)=>(fun (y14:i13 < (allC f).length)=>(zr ([iv ((allC f).getD i13 0)]))))))) tv) (An (zr true) (zr true))))) (An (Ak 1 tv) (An (zr (AV.vec 0)) (An (zr (some (OB.vec 3 1 (allC f).length fun (i:Nat)=>[iv ((allC f).getD i 0)]))) tv)))
theorem to91 (f:Frm) (l:List (Nat × Nat)) (hl:l.map (·.1) = [0]) (hnd:(l.map (·.2)).Nodup):Ja4 Tryz.prog 91 ((ou91 f).at l):=by
 apply wo91 (l:=l) (hl:=hl) (hnd:=hnd)
 all_goals (try delta q8 q9 qa qb qc qd qe)
 case o16=>intro hp x hx h k hk h2; simp only [decide_eq_true_eq] at h; simp only [decide_eq_false_iff_not] at h2; rw [Jh9 f (by omega) (by omega)]
 case o17=>intro hp x hx h k hk h2 i hi; simp only [decide_eq_true_eq] at h; simp only [decide_eq_false_iff_not] at h2; rw [Jh9 f (c:=x) (by omega) (by omega)]
 case o20=>intro hp x hx h; simp only [decide_eq_false_iff_not] at h; rw [Jjg f (by omega)]
 case o21=>intro hp x hx h i hi; simp only [decide_eq_false_iff_not] at h; rw [Jjg f (by omega)]
 case o22=>intro hp j hj _; have:=Jml f j.1 j.2 64 64 hp.2.2.1 hp.2.2.2; omega
 case o23=>intro hp j hj _; rw [JeN f hj.2,List.length_append]; rfl
 case o24 =>
  intro hp j hj _ i hi
  rw [JeN f hj.2]
  exact Jc4 (JaT f j.1 j.2) _ 0 (fun x=>[iv x]) rfl (fun k _=>rfl) rfl hi
 case o10=>intro hp x hx h k hk h2; simp only [decide_eq_true_eq] at h2; have:=hp.2.2.2 x; exact ⟨by omega,by omega⟩
 case o14=>intro hp x hx h k hk h2; have:=hp.2.2.1; exact ⟨by omega,by omega⟩
 all_goals (first | ((repeat intro _) <;> (try simp only [Bool.cond_true_left,Bool.cond_false_right,Bool.not_not,Bool.not_eq_true',Bool.not_eq_false',Bool.or_eq_true,Bool.or_eq_false_iff,Bool.and_eq_true,decide_eq_true_eq,decide_eq_false_iff_not,inI,big,Jba,Jai,Jbn] at *) <;> first | (exact rfl) | omega | (exact ⟨Nat.zero_le _,fun j hj=>absurd hj (Nat.not_lt_zero j)⟩) | (simp_all; done) | (simp_all; omega)) | skip)
theorem t91o (f:Frm) (id:Nat):Ja4 Tryz.prog 91 (s91o f id):=to91 f _ rfl (by simp)
theorem wo74 (f:Frm)
  (l:List (Nat × Nat)) (hl:l.map (·.1)=(OutSpec.hout (ou74 f)).map (·.1)) (hnd:(l.map (·.2)).Nodup) :
  Ja4 Tryz.prog 74 (OutSpec.at (ou74 f) l):=by
 refine Jbu Tryz.func74 rfl Tryz.call74 Jaw _ _ _ _ l rfl (Nat.le_of_ble_eq_true (by kernel_rfl)) hl hnd (by kernel_rfl) (by kernel_rfl) (by kernel_rfl) ?_
 intro hpre C hC hE
 obtain ⟨P,w0,E0,av,hA,ro,df⟩:=C
 obtain ⟨rfl,rfl,rfl⟩:=hC
 refine Ja0 ?_
 refine zR [0] [] (Ak 1 tv) ?_
 refine Ja0 ?_
 refine zC ([(1,CallSpec.eq (c74 f 16) [true,true])]) [2] [16] (Ak 1 (An (An (An (zr (nilv)) (An (zr (AV.clo 59 [AV.rp (cFrm f)])) tv)) (An (t91o (f) (16)) (An hpre (Ak 1 (fun (i0:Env)=>tv))))) (Ak 1 tv))) ?_
 refine Ja5 ?_
 exact zO (ASt.mk [(2,AV.vec 0)] [(0,OB.vec 3 1 (allC f).length fun (i:Nat)=>[iv ((allC f).getD i 0)])] 100) (zE hE [] [(0,.same 16)] [] [] (An (An (zr (some (Src.same 16))) tv) (An (An (An (zr 3) (An (zr 1) (An (zr (allC f).length) (fun (i1:Nat)=>(fun (y2:i1 < (allC f).length)=>(zr ([iv ((allC f).getD i1 0)]))))))) tv) (An (zr true) (zr true))))) (An (Ak 1 tv) (An (zr (AV.vec 0)) (An (zr (some (OB.vec 3 1 (allC f).length fun (i:Nat)=>[iv ((allC f).getD i 0)]))) tv)))
theorem to74 (f:Frm) (l:List (Nat × Nat)) (hl:l.map (·.1) = [0]) (hnd:(l.map (·.2)).Nodup):Ja4 Tryz.prog 74 ((ou74 f).at l):=by
 apply wo74 (l:=l) (hl:=hl) (hnd:=hnd)
 all_goals (first | ((repeat intro _) <;> (try simp only [Bool.cond_true_left,Bool.cond_false_right,Bool.not_not,Bool.not_eq_true',Bool.not_eq_false',Bool.or_eq_true,Bool.or_eq_false_iff,Bool.and_eq_true,decide_eq_true_eq,decide_eq_false_iff_not,inI,big,Jba,Jai,Jbn] at *) <;> first | (exact rfl) | omega | (exact ⟨Nat.zero_le _,fun j hj=>absurd hj (Nat.not_lt_zero j)⟩) | (simp_all; done) | (simp_all; omega)) | skip)
theorem t74o (f:Frm) (id:Nat):Ja4 Tryz.prog 74 (s74o f id):=to74 f _ rfl (by simp)
theorem w58 (f:Frm)
  (o0:Jai f->List.length (allC f)<=65536)
  (o1:Jai f->(JdE (allC f)).length=(srt f).length)
  (o2:Jai f -> ∀ (i2:Nat),i2 < (srt f).length -> [iv ((JdE (allC f)).getD i2 0)] = [iv ((srt f).getD i2 0)]) :
  Ja4 Tryz.prog 58 (s58 f):=by
 refine Ja7 Tryz.func58 rfl Tryz.call58 Jaw _ rfl rfl rfl rfl (Nat.le_of_ble_eq_true (by kernel_rfl)) (fun _ _ _ _ h=>h) ?_
 intro hpre C hC _ hE
 obtain ⟨P,w0,E0,av,hA,ro,df⟩:=C
 obtain ⟨rfl,rfl,rfl⟩:=hC
 refine Ja0 ?_
 refine zR [0] [] (Ak 1 tv) ?_
 refine Ja0 ?_
 refine zC ([(1,CallSpec.eq (c58 f 16) [true])]) [3] [16] (Ak 1 (An (An (An (zr (AV.clo 59 [AV.rp (cFrm f)])) tv) (An (t74o (f) (16)) (An hpre (Ak 1 (fun (i0:Env)=>tv))))) (Ak 1 tv))) ?_
 refine Ja0 ?_
 refine zC ([(1,CallSpec.eq (cs58 f) [true])]) [3] [16] (Ak 1 (An (An (An (zr (AV.vec 16)) tv) (An (t75 (16) (allC f)) (An (o0 hpre) (An (An (zr (some (OB.vec 3 1 (allC f).length fun (i:Nat)=>[iv ((allC f).getD i 0)]))) tv) (fun (i1:Env)=>tv))))) tv)) ?_
 refine Ja0 ?_
 refine zR [2] [16] (Ak 2 tv) ?_
 refine Ja5 ?_
 exact zT [16] (An (Ak 1 tv) (An (An (zr 1) (An (o1 hpre) (fun (i2:Nat)=>(fun (y3:i2 < (srt f).length)=>(o2 hpre i2 y3))))) (An (zr true) (An (zr true) (zr true)))))
theorem t58 (f:Frm):Ja4 Tryz.prog 58 (s58 f):=by
 apply w58
 case o0=>intro hp; have:=JjQ f 64 64 hp.2.2.1 hp.2.2.2; omega
 all_goals (try ((repeat intro _) <;> (try simp only [Bool.cond_true_left,Bool.cond_false_right,Bool.not_not,Bool.not_eq_true',Bool.not_eq_false',Bool.or_eq_true,Bool.or_eq_false_iff,Bool.and_eq_true,decide_eq_true_eq,decide_eq_false_iff_not,inI,big,Jba,Jai,Jbn] at *) <;> first | (exact rfl) | omega | (exact ⟨Nat.zero_le _,fun j hj=>absurd hj (Nat.not_lt_zero j)⟩) | (simp_all; done) | (simp_all; omega)))
theorem w57 (n:Int) (lo:Int) (hi:Int)
  (o0:(bif decide (lo<=n) then decide (n<=hi) else false)=Ja1 n lo hi) :
  Ja4 Tryz.prog 57 (s57 n lo hi):=by
 refine Ja7 Tryz.func57 rfl Tryz.call57 Jaw _ rfl rfl rfl rfl (Nat.le_of_ble_eq_true (by kernel_rfl)) (fun _ _ _ _ h=>h) ?_
 intro _ C hC _ hE
 obtain ⟨P,w0,E0,av,hA,ro,df⟩:=C
 obtain ⟨rfl,rfl,rfl⟩:=hC
 refine Ja0 ?_
 refine zR [0,1,2] [] (Ak 1 tv) ?_
 refine Ja0 ?_
 refine zR [6] [] (Ak 4 (An (fun (y0:decide (lo<=n)=true)=>(An (Ak 1 tv) tv)) (An (fun (y1:decide (lo<=n)=true)=>(An (Ak 1 tv) tv)) (An (fun (y2:decide (lo<=n)=true)=>(An (An (fun (y3:decide (lo<=n)=true)=>y2) (An (fun (y4:decide (lo<=n)=true)=>y2) tv)) tv)) (An (An (fun (y5:decide (lo<=n)=true)=>y5) (fun (y6:decide (lo<=n)=false)=>tv)) (Ak 1 tv)))))) ?_
 refine Ja5 ?_
 exact zT [] (An (Ak 1 tv) (An (An (cb (o0)) (zr nilN)) (An (zr true) (An (zr true) (zr true)))))
theorem t57 (n lo hi:Int):Ja4 Tryz.prog 57 (s57 n lo hi):=by
 apply w57
 all_goals (try ((repeat intro _) <;> (try simp only [Bool.cond_true_left,Bool.cond_false_right,Bool.not_not,Bool.not_eq_true',Bool.not_eq_false',Bool.or_eq_true,Bool.or_eq_false_iff,Bool.and_eq_true,decide_eq_true_eq,decide_eq_false_iff_not,inI,big,Jba,Jai,Jbn] at *) <;> first | (exact rfl) | omega | (exact ⟨Nat.zero_le _,fun j hj=>absurd hj (Nat.not_lt_zero j)⟩) | (simp_all; done) | (simp_all; omega)))
theorem w17 (n:Int) (lo:Int) (hi:Int) :
  Ja4 Tryz.prog 17 (s17 n lo hi):=by
 refine Ja7 Tryz.func17 rfl Tryz.call17 Jaw _ rfl rfl rfl rfl (Nat.le_of_ble_eq_true (by kernel_rfl)) (fun _ _ _ _ h=>h) ?_
 intro _ C hC _ hE
 obtain ⟨P,w0,E0,av,hA,ro,df⟩:=C
 obtain ⟨rfl,rfl,rfl⟩:=hC
 refine Ja0 ?_
 refine zR [0,1,2] [] (Ak 1 tv) ?_
 refine Ja0 ?_
 refine zC ([(3,CallSpec.eq (s8 n lo hi) [true,true,true])]) [6] [] (Ak 3 (An (An (An (zr (iv n)) (An (zr (iv lo)) (An (zr (iv hi)) tv))) (An (t8 (n) (lo) (hi)) (Ak 2 (fun (i0:Env)=>tv)))) (Ak 1 tv))) ?_
 refine Ja5 ?_
 exact zT [] (An (Ak 1 tv) (An (An (zr (bv (Ja1 n lo hi))) (zr nilN)) (An (zr true) (An (zr true) (zr true)))))
theorem t17 (n lo hi:Int):Ja4 Tryz.prog 17 (s17 n lo hi):=by
 apply w17
 all_goals (try ((repeat intro _) <;> (try simp only [Bool.cond_true_left,Bool.cond_false_right,Bool.not_not,Bool.not_eq_true',Bool.not_eq_false',Bool.or_eq_true,Bool.or_eq_false_iff,Bool.and_eq_true,decide_eq_true_eq,decide_eq_false_iff_not,inI,big,Jba,Jai,Jbn] at *) <;> first | (exact rfl) | omega | (exact ⟨Nat.zero_le _,fun j hj=>absurd hj (Nat.not_lt_zero j)⟩) | (simp_all; done) | (simp_all; omega)))
theorem w20 (f:Frm) (n:Int)
  (o0:Jba f->inI ((↑(f.pieces.length):Int) - 1))
  (o1:Jba f->Ja1 n 0 ((↑(f.pieces.length):Int) - 1)=isPc f n) :
  Ja4 Tryz.prog 20 (s20 f n):=by
 refine Ja7 Tryz.func20 rfl Tryz.call20 Jaw _ rfl rfl rfl rfl (Nat.le_of_ble_eq_true (by kernel_rfl)) (fun _ _ _ _ h=>h) ?_
 intro hpre C hC _ hE
 obtain ⟨P,w0,E0,av,hA,ro,df⟩:=C
 obtain ⟨rfl,rfl,rfl⟩:=hC
 refine Ja0 ?_
 refine zR [1,2] [0] (Ak 2 tv) ?_
 refine Ja0 ?_
 refine zC ([(5,CallSpec.eq (s17 n 0 ((↑(f.pieces.length):Int) - 1)) [true,true,true])]) [4] [] (Ak 4 (An (o0 hpre) (An (An (An (zr (iv n)) (An (zr (iv 0)) (An (zr (iv ((↑(f.pieces.length):Int) - 1))) tv))) (An (t17 (n) (0) ((↑(f.pieces.length):Int) - 1)) (Ak 2 (fun (i0:Env)=>tv)))) (Ak 1 tv)))) ?_
 refine Ja5 ?_
 exact zT [] (An (Ak 1 tv) (An (An (cb (o1 hpre)) (zr nilN)) (An (zr true) (An (zr true) (zr true)))))
theorem t20 (f:Frm) (n:Int):Ja4 Tryz.prog 20 (s20 f n):=by
 apply w20
 all_goals (try ((repeat intro _) <;> (try simp only [Bool.cond_true_left,Bool.cond_false_right,Bool.not_not,Bool.not_eq_true',Bool.not_eq_false',Bool.or_eq_true,Bool.or_eq_false_iff,Bool.and_eq_true,decide_eq_true_eq,decide_eq_false_iff_not,inI,big,Jba,Jai,Jbn] at *) <;> first | (exact rfl) | omega | (exact ⟨Nat.zero_le _,fun j hj=>absurd hj (Nat.not_lt_zero j)⟩) | (simp_all; done) | (simp_all; omega)))
abbrev qf (f:Frm) (l:List Int) (Pq:Prop):Prop:=Sound f/\Jbn f l->Pq
abbrev qg (l:List Int) (x0:Nat) (Pq:Prop):Prop:=x0<=l.length->Pq
abbrev qh (l:List Int) (x0:Nat) (Pq:Prop):Prop:=qg l x0 (decide ((x0:Int) < (↑(l.length):Int))=true->Pq)
theorem w65 (f:Frm) (l:List Int)
 (o0:qf f l (0=(↑0:Int)))
 (o1:qf f l (0=(Jax f (List.take 0 l)).lo))
 (o2:qf f l (0=(Jax f (List.take 0 l)).hi))
 (o3:qf f l (0<=List.length l))
 (o4:qf f l (∀ (x0:Nat),qh l x0 (0<=(x0:Int))))
 (o5:qf f l (∀ (x0:Nat),qh l x0 ((x0:Int) < (↑(l.length):Int))))
 (o6:qf f l (∀ (x0:Nat),qh l x0 (0<=l.getD x0 0)))
 (o7:qf f l (∀ (x0:Nat),qh l x0 (l.getD x0 0 < (↑(f.pieces.length):Int))))
 (o8:qf f l (∀ (x0:Nat),qh l x0 (inI ((Jax f (List.take x0 l)).lo + (pc f (l.getD x0 0).toNat).lo))))
 (o9:qf f l (∀ (x0:Nat),qh l x0 (0<=l.getD x0 0)))
 (o10:qf f l (∀ (x0:Nat),qh l x0 (l.getD x0 0 < (↑(f.pieces.length):Int))))
 (o11:qf f l (∀ (x0:Nat),qh l x0 (inI ((Jax f (List.take x0 l)).hi + (pc f (l.getD x0 0).toNat).hi))))
 (o12:qf f l (∀ (x0:Nat),qh l x0 (inI ((x0:Int) + 1))))
 (o13:qf f l (∀ (x0:Nat),qh l x0 ((x0:Int) + 1=(↑(x0 + 1):Int))))
 (o14:qf f l (∀ (x0:Nat),qh l x0 ((Jax f (List.take x0 l)).lo + (pc f (l.getD x0 0).toNat).lo=(Jax f (List.take (x0 + 1) l)).lo)))
 (o15:qf f l (∀ (x0:Nat),qh l x0 ((Jax f (List.take x0 l)).hi + (pc f (l.getD x0 0).toNat).hi=(Jax f (List.take (x0 + 1) l)).hi)))
 (o16:qf f l (∀ (x0:Nat),qh l x0 (x0 + 1<=l.length)))
 (o17:qf f l (∀ (x0:Nat),qh l x0 (l.length - (x0 + 1) < l.length - x0)))
 (o18:qf f l (∀ (x0:Nat),qg l x0 (decide ((x0:Int) < (↑(l.length):Int))=false->(Jax f (List.take x0 l)).lo=(Jax f l).lo)))
 (o19:qf f l (∀ (x0:Nat),qg l x0 (decide ((x0:Int) < (↑(l.length):Int))=false->(Jax f (List.take x0 l)).hi=(Jax f l).hi))) :
  Ja4 Tryz.prog 65 (s65 f l):=by
 refine Ja7 Tryz.func65 rfl Tryz.call65 Jaw _ rfl rfl rfl rfl (Nat.le_of_ble_eq_true (by kernel_rfl)) (fun _ _ _ _ h=>h) ?_
 intro hpre C hC _ hE
 obtain ⟨P,w0,E0,av,hA,ro,df⟩:=C
 obtain ⟨rfl,rfl,rfl⟩:=hC
 refine Ja0 ?_
 refine zR [1,2,4] [0,8] (Ak 2 tv) ?_
 refine Ja0 ?_
 refine Ja0 ?_
 refine zR [2,4,7,8,9] [0,8] (Ak 3 tv) ?_
 refine Ja2 ?_
 refine zL (Hint.ann (h65 f l) [(2,AV.ptr 0 []),(7,Ja6 l),(8,iv (↑(l.length):Int))] [(0,OB.cells 71 (cFrm f))] 10040) (zE hE [] [(0,.same 0),(5000,.same 8)] [7,8] [0] (An (An (An (zr (some (Src.same 0))) (zr nilP)) (An (An (zr (Ja6 l)) (zr true)) (An (An (zr (iv (↑(l.length):Int))) (zr true)) (An (An (ci (o0 hpre)) (zr nilN)) (An (An (zr (some (Src.same 8))) (zr nilP)) tv))))) (An (An (An (zr (OB.cells 71 (cFrm f))) (zr true)) (An (An (zr 42) (An (An (An (ci (o1 hpre)) (zr nilN)) (An (An (ci (o2 hpre)) (zr nilN)) tv)) (zr true))) tv)) (An (zr true) (zr true))))) (o3 hpre) (fun (x0:Nat) hx0 => ?_)
 refine Ja0 ?_
 refine zR [2,7,8,9,4,10] [0,5000] (Ak 1 tv) ?_
 refine Ja0 ?_
 refine zI (decide ((x0:Int) < (↑(l.length):Int))) (fun y1 => ?_) (fun y1 => ?_)
 ·refine Ja3 ?_
  refine Ja0 ?_
  refine Ja2 ?_
  refine Ja0 ?_
  refine zR [2,7,8,9,4,6] [0,5000] (An (An (o4 hpre x0 hx0 y1) (o5 hpre x0 hx0 y1)) (Ak 2 tv)) ?_
  refine Ja0 ?_
  refine zR [2,7,8,9,4,6] [0,5000] (Ak 6 (An (An (o6 hpre x0 hx0 y1) (o7 hpre x0 hx0 y1)) (Ak 3 (An (o8 hpre x0 hx0 y1) (Ak 2 tv))))) ?_
  refine zR [2,7,8,9,4] [0,5000] (Ak 6 (An (An (o9 hpre x0 hx0 y1) (o10 hpre x0 hx0 y1)) (Ak 3 (An (o11 hpre x0 hx0 y1) (Ak 2 tv))))) ?_
  refine zR [2,7,8,9,4] [0,5000] (An (o12 hpre x0 hx0 y1) (Ak 1 tv)) ?_
  exact zn (zE hE [] [(0,.same 0),(5000,.same 5000)] [7,8] [0] (An (An (An (zr (some (Src.same 0))) (zr nilP)) (An (An (zr (Ja6 l)) (zr true)) (An (An (zr (iv (↑(l.length):Int))) (zr true)) (An (An (ci (o13 hpre x0 hx0 y1)) (zr nilN)) (An (An (zr (some (Src.same 5000))) (zr nilP)) tv))))) (An (An (An (zr (OB.cells 71 (cFrm f))) (zr true)) (An (An (zr 42) (An (An (An (ci (o14 hpre x0 hx0 y1)) (zr nilN)) (An (An (ci (o15 hpre x0 hx0 y1)) (zr nilN)) tv)) (zr true))) tv)) (An (zr true) (zr true))))) (o16 hpre x0 hx0 y1) (o17 hpre x0 hx0 y1)
 ·refine Jaa ?_
  refine Ja0 ?_
  refine zR [4] [5000] (Ak 2 tv) ?_
  refine Ja5 ?_
  exact zT [] (An (Ak 1 tv) (An (An (An (ci (o18 hpre x0 hx0 y1)) (zr nilN)) (An (An (ci (o19 hpre x0 hx0 y1)) (zr nilN)) tv)) (An (zr true) (An (zr true) (zr true)))))
theorem t65 (f:Frm) (l:List Int):Ja4 Tryz.prog 65 (s65 f l):=by
 apply w65
 all_goals (try delta qf qg qh)
 case o6=>intro hp x hx h; simp only [decide_eq_true_eq] at h; exact (hp.2.2 x (by omega)).1
 case o7=>intro hp x hx h; simp only [decide_eq_true_eq] at h; exact (hp.2.2 x (by omega)).2
 case o8=>intro hp x hx h; simp only [decide_eq_true_eq] at h; have h1:=Jbv hp.1 hp.2 (x + 1) (by omega); have h2:=Jbv hp.1 hp.2 x (by omega); have h3:=hp.2.1; rw [JbL f l (by omega)] at h1; simp only [Jfs] at h1; exact ⟨by omega,by omega⟩
 case o11=>intro hp x hx h; simp only [decide_eq_true_eq] at h; have h1:=Jbv hp.1 hp.2 (x + 1) (by omega); have h2:=Jbv hp.1 hp.2 x (by omega); have h3:=hp.2.1; rw [JbL f l (by omega)] at h1; simp only [Jfs] at h1; exact ⟨by omega,by omega⟩
 case o12=>intro hp x hx h; simp only [decide_eq_true_eq] at h; have h3:=hp.2.1; exact ⟨by omega,by omega⟩
 case o14=>intro hp x hx h; simp only [decide_eq_true_eq] at h; rw [JbL f l (by omega)]; rfl
 case o15=>intro hp x hx h; simp only [decide_eq_true_eq] at h; rw [JbL f l (by omega)]; rfl
 case o18=>intro hp x hx h; simp only [decide_eq_false_iff_not] at h; rw [List.take_of_length_le (by omega)]
 case o19=>intro hp x hx h; simp only [decide_eq_false_iff_not] at h; rw [List.take_of_length_le (by omega)]
 case o9=>intro hp x hx h; simp only [decide_eq_true_eq] at h; exact (hp.2.2 x (by omega)).1
 case o10=>intro hp x hx h; simp only [decide_eq_true_eq] at h; exact (hp.2.2 x (by omega)).2
 all_goals (try ((repeat intro _) <;> (try simp only [Bool.cond_true_left,Bool.cond_false_right,Bool.not_not,Bool.not_eq_true',Bool.not_eq_false',Bool.or_eq_true,Bool.or_eq_false_iff,Bool.and_eq_true,decide_eq_true_eq,decide_eq_false_iff_not,inI,big,Jba,Jai,Jbn] at *) <;> first | (exact rfl) | omega | (exact ⟨Nat.zero_le _,fun j hj=>absurd hj (Nat.not_lt_zero j)⟩) | (simp_all; done) | (simp_all; omega)))
abbrev qi (f:Frm) (l:List Int) (Pq:Prop):Prop:=Sound f/\Jbn f l->Pq
abbrev qj (l:List Int) (x0:Nat) (Pq:Prop):Prop:=x0<=l.length->Pq
abbrev qk (l:List Int) (x0:Nat) (Pq:Prop):Prop:=qj l x0 (decide ((x0:Int) < (↑(l.length):Int))=true->Pq)
theorem w69 (f:Frm) (l:List Int)
 (o0:qi f l (0=(↑0:Int)))
 (o1:qi f l (0=(Jax f (List.take 0 l)).lo))
 (o2:qi f l (0=(Jax f (List.take 0 l)).hi))
 (o3:qi f l (0<=List.length l))
 (o4:qi f l (∀ (x0:Nat),qk l x0 (0<=(x0:Int))))
 (o5:qi f l (∀ (x0:Nat),qk l x0 ((x0:Int) < (↑(l.length):Int))))
 (o6:qi f l (∀ (x0:Nat),qk l x0 (0<=l.getD x0 0)))
 (o7:qi f l (∀ (x0:Nat),qk l x0 (l.getD x0 0 < (↑(f.pieces.length):Int))))
 (o8:qi f l (∀ (x0:Nat),qk l x0 (inI ((Jax f (List.take x0 l)).lo + (pc f (l.getD x0 0).toNat).lo))))
 (o9:qi f l (∀ (x0:Nat),qk l x0 (inI ((Jax f (List.take x0 l)).hi + (pc f (l.getD x0 0).toNat).hi))))
 (o10:qi f l (∀ (x0:Nat),qk l x0 (inI ((x0:Int) + 1))))
 (o11:qi f l (∀ (x0:Nat),qk l x0 ((x0:Int) + 1=(↑(x0 + 1):Int))))
 (o12:qi f l (∀ (x0:Nat),qk l x0 ((Jax f (List.take x0 l)).lo + (pc f (l.getD x0 0).toNat).lo=(Jax f (List.take (x0 + 1) l)).lo)))
 (o13:qi f l (∀ (x0:Nat),qk l x0 ((Jax f (List.take x0 l)).hi + (pc f (l.getD x0 0).toNat).hi=(Jax f (List.take (x0 + 1) l)).hi)))
 (o14:qi f l (∀ (x0:Nat),qk l x0 (x0 + 1<=l.length)))
 (o15:qi f l (∀ (x0:Nat),qk l x0 (l.length - (x0 + 1) < l.length - x0)))
 (o16:qi f l (∀ (x0:Nat),qj l x0 (decide ((x0:Int) < (↑(l.length):Int))=false->(Jax f (List.take x0 l)).lo=(Jax f l).lo)))
 (o17:qi f l (∀ (x0:Nat),qj l x0 (decide ((x0:Int) < (↑(l.length):Int))=false->(Jax f (List.take x0 l)).hi=(Jax f l).hi))) :
  Ja4 Tryz.prog 69 (s69 f l):=by
 refine Ja7 Tryz.func69 rfl Tryz.call69 Jaw _ rfl rfl rfl rfl (Nat.le_of_ble_eq_true (by kernel_rfl)) (fun _ _ _ _ h=>h) ?_
 intro hpre C hC _ hE
 obtain ⟨P,w0,E0,av,hA,ro,df⟩:=C
 obtain ⟨rfl,rfl,rfl⟩:=hC
 refine Ja0 ?_
 refine zR [1,2,4] [0,8] (Ak 2 tv) ?_
 refine Ja0 ?_
 refine zR [1,2,4,5] [0,8,16] (Ak 1 tv) ?_
 refine Ja0 ?_
 refine Ja0 ?_
 refine zR [1,2,4,5,6] [0,8,16] (Ak 1 tv) ?_
 refine Ja2 ?_
 refine zL (Hint.ann (h69 f l) [(1,Ja6 l),(2,AV.ptr 0 []),(4,AV.ptr 8 [])] [(0,OB.cells 26 (cFrm f)),(8,OB.cells 42 [iv 0,iv 0])] 10032) (zE hE [] [(0,.same 0),(8,.same 8),(5000,.same 16)] [1] [0,8] (An (An (An (zr (Ja6 l)) (zr true)) (An (An (zr (some (Src.same 0))) (zr nilP)) (An (An (zr (some (Src.same 8))) (zr nilP)) (An (An (ci (o0 hpre)) (zr nilN)) (An (An (zr (some (Src.same 16))) (zr nilP)) tv))))) (An (An (An (zr (OB.cells 26 (cFrm f))) (zr true)) (An (An (zr (OB.cells 42 [iv 0,iv 0])) (zr true)) (An (An (zr 42) (An (An (An (ci (o1 hpre)) (zr nilN)) (An (An (ci (o2 hpre)) (zr nilN)) tv)) (zr true))) tv))) (An (zr true) (zr true))))) (o3 hpre) (fun (x0:Nat) hx0 => ?_)
 refine Ja0 ?_
 refine Ja0 ?_
 refine zR [1,2,4,6,5,11] [0,8,5000] (Ak 4 tv) ?_
 refine zI (decide ((x0:Int) < (↑(l.length):Int))) (fun y1 => ?_) (fun y1 => ?_)
 ·refine Ja3 ?_
  refine Ja0 ?_
  refine Ja2 ?_
  refine Ja0 ?_
  refine zR [1,2,4,6,5,7] [0,8,5000,10136] (Ak 4 (An (An (o4 hpre x0 hx0 y1) (o5 hpre x0 hx0 y1)) (Ak 1 (An (An (o6 hpre x0 hx0 y1) (o7 hpre x0 hx0 y1)) (Ak 4 tv))))) ?_
  refine zR [1,2,4,6,5] [0,8,5000] (Ak 4 (An (o8 hpre x0 hx0 y1) (Ak 4 (An (o9 hpre x0 hx0 y1) (Ak 2 tv))))) ?_
  refine zR [1,2,4,6,5] [0,8,5000] (Ak 1 (An (o10 hpre x0 hx0 y1) (Ak 1 tv))) ?_
  exact zn (zE hE [] [(0,.same 0),(8,.same 8),(5000,.same 5000)] [1] [0,8] (An (An (An (zr (Ja6 l)) (zr true)) (An (An (zr (some (Src.same 0))) (zr nilP)) (An (An (zr (some (Src.same 8))) (zr nilP)) (An (An (ci (o11 hpre x0 hx0 y1)) (zr nilN)) (An (An (zr (some (Src.same 5000))) (zr nilP)) tv))))) (An (An (An (zr (OB.cells 26 (cFrm f))) (zr true)) (An (An (zr (OB.cells 42 [iv 0,iv 0])) (zr true)) (An (An (zr 42) (An (An (An (ci (o12 hpre x0 hx0 y1)) (zr nilN)) (An (An (ci (o13 hpre x0 hx0 y1)) (zr nilN)) tv)) (zr true))) tv))) (An (zr true) (zr true))))) (o14 hpre x0 hx0 y1) (o15 hpre x0 hx0 y1)
 ·refine Jaa ?_
  refine Ja0 ?_
  refine zR [4] [8] (Ak 2 tv) ?_
  refine Ja5 ?_
  exact zT [] (An (Ak 1 tv) (An (An (An (ci (o16 hpre x0 hx0 y1)) (zr nilN)) (An (An (ci (o17 hpre x0 hx0 y1)) (zr nilN)) tv)) (An (zr true) (An (zr true) (zr true)))))
theorem t69 (f:Frm) (l:List Int):Ja4 Tryz.prog 69 (s69 f l):=by
 apply w69
 all_goals (try delta qi qj qk)
 case o6=>intro hp x hx h; simp only [decide_eq_true_eq] at h; exact (hp.2.2 x (by omega)).1
 case o7=>intro hp x hx h; simp only [decide_eq_true_eq] at h; exact (hp.2.2 x (by omega)).2
 case o8=>intro hp x hx h; simp only [decide_eq_true_eq] at h; have h1:=Jbv hp.1 hp.2 (x + 1) (by omega); have h2:=Jbv hp.1 hp.2 x (by omega); have h3:=hp.2.1; rw [JbL f l (by omega)] at h1; simp only [Jfs] at h1; exact ⟨by omega,by omega⟩
 case o9=>intro hp x hx h; simp only [decide_eq_true_eq] at h; have h1:=Jbv hp.1 hp.2 (x + 1) (by omega); have h2:=Jbv hp.1 hp.2 x (by omega); have h3:=hp.2.1; rw [JbL f l (by omega)] at h1; simp only [Jfs] at h1; exact ⟨by omega,by omega⟩
 case o10=>intro hp x hx h; simp only [decide_eq_true_eq] at h; have h3:=hp.2.1; exact ⟨by omega,by omega⟩
 case o12=>intro hp x hx h; simp only [decide_eq_true_eq] at h; rw [JbL f l (by omega)]; rfl
 case o13=>intro hp x hx h; simp only [decide_eq_true_eq] at h; rw [JbL f l (by omega)]; rfl
 case o16=>intro hp x hx h; simp only [decide_eq_false_iff_not] at h; rw [List.take_of_length_le (by omega)]
 case o17=>intro hp x hx h; simp only [decide_eq_false_iff_not] at h; rw [List.take_of_length_le (by omega)]
 all_goals (try ((repeat intro _) <;> (try simp only [Bool.cond_true_left,Bool.cond_false_right,Bool.not_not,Bool.not_eq_true',Bool.not_eq_false',Bool.or_eq_true,Bool.or_eq_false_iff,Bool.and_eq_true,decide_eq_true_eq,decide_eq_false_iff_not,inI,big,Jba,Jai,Jbn] at *) <;> first | (exact rfl) | omega | (exact ⟨Nat.zero_le _,fun j hj=>absurd hj (Nat.not_lt_zero j)⟩) | (simp_all; done) | (simp_all; omega)))
abbrev ql (f:Frm) (set:List Int) (Pq:Prop):Prop:=Sound f/\isSet f set=true->Pq
abbrev qm (set:List Int) (x0:Nat) (Pq:Prop):Prop:=x0<=set.length->Pq
abbrev qn (set:List Int) (x0:Nat) (Pq:Prop):Prop:=qm set x0 (decide ((x0:Int) < (↑(set.length):Int))=true->Pq)
theorem w78 (f:Frm) (set:List Int)
 (o0:ql f set (0=ptTo f set 0))
 (o1:ql f set (0=(↑0:Int)))
 (o2:ql f set (0<=set.length))
 (o3:ql f set (∀ (x0:Nat),qn set x0 (0<=(x0:Int))))
 (o4:ql f set (∀ (x0:Nat),qn set x0 ((x0:Int) < (↑(set.length):Int))))
 (o5:ql f set (∀ (x0:Nat),qn set x0 (0<=(x0:Int))))
 (o6:ql f set (∀ (x0:Nat),qn set x0 ((x0:Int) < (↑(f.strips.length):Int))))
 (o7:ql f set (∀ (x0:Nat),qn set x0 (inI (set.getD x0 0 * (stp f x0).thick))))
 (o8:ql f set (∀ (x0:Nat),qn set x0 (inI (ptTo f set x0 + set.getD x0 0 * (stp f x0).thick))))
 (o9:ql f set (∀ (x0:Nat),qn set x0 (inI ((x0:Int) + 1))))
 (o10:ql f set (∀ (x0:Nat),qn set x0 (ptTo f set x0 + set.getD x0 0 * (stp f x0).thick=ptTo f set (x0 + 1))))
 (o11:ql f set (∀ (x0:Nat),qn set x0 ((x0:Int) + 1=(↑(x0 + 1):Int))))
 (o12:ql f set (∀ (x0:Nat),qn set x0 (x0 + 1<=set.length)))
 (o13:ql f set (∀ (x0:Nat),qn set x0 (set.length - (x0 + 1) < set.length - x0)))
 (o14:ql f set (∀ (x0:Nat),qm set x0 (decide ((x0:Int) < (↑(set.length):Int))=false->ptTo f set x0=JaA f set))) :
  Ja4 Tryz.prog 78 (s78 f set):=by
 refine Ja7 Tryz.func78 rfl Tryz.call78 Jaw _ rfl rfl rfl rfl (Nat.le_of_ble_eq_true (by kernel_rfl)) (fun _ _ _ _ h=>h) ?_
 intro hpre C hC _ hE
 obtain ⟨P,w0,E0,av,hA,ro,df⟩:=C
 obtain ⟨rfl,rfl,rfl⟩:=hC
 refine Ja0 ?_
 refine zR [1,2] [0] (Ak 2 tv) ?_
 refine Ja0 ?_
 refine zR [1,2,5] [0] (Ak 1 tv) ?_
 refine Ja0 ?_
 refine Ja0 ?_
 refine zR [2,5,8,9,10] [0] (Ak 3 tv) ?_
 refine Ja2 ?_
 refine zL (Hint.ann (h78 f set) [(2,AV.ptr 0 []),(8,Ja6 set),(9,iv (↑(set.length):Int))] [(0,OB.cells 71 (cFrm f))] 10048) (zE hE [] [(0,.same 0)] [8,9] [0] (An (An (An (zr (some (Src.same 0))) (zr nilP)) (An (An (zr (Ja6 set)) (zr true)) (An (An (zr (iv (↑(set.length):Int))) (zr true)) (An (An (ci (o0 hpre)) (zr nilN)) (An (An (ci (o1 hpre)) (zr nilN)) tv))))) (An (An (An (zr (OB.cells 71 (cFrm f))) (zr true)) tv) (An (zr true) (zr true))))) (o2 hpre) (fun (x0:Nat) hx0 => ?_)
 refine Ja0 ?_
 refine zR [2,8,9,5,10,11] [0] (Ak 1 tv) ?_
 refine Ja0 ?_
 refine zI (decide ((x0:Int) < (↑(set.length):Int))) (fun y1 => ?_) (fun y1 => ?_)
 ·refine Ja3 ?_
  refine Ja0 ?_
  refine Ja2 ?_
  refine Ja0 ?_
  refine zR [2,8,9,5,10,6,7] [0] (Ak 1 (An (An (o3 hpre x0 hx0 y1) (o4 hpre x0 hx0 y1)) (Ak 3 tv))) ?_
  refine zR [2,8,9,5,10] [0] (Ak 6 (An (An (o5 hpre x0 hx0 y1) (o6 hpre x0 hx0 y1)) (Ak 2 (An (o7 hpre x0 hx0 y1) (An (o8 hpre x0 hx0 y1) (Ak 1 tv)))))) ?_
  refine zR [2,8,9,5,10] [0] (An (o9 hpre x0 hx0 y1) (Ak 1 tv)) ?_
  exact zn (zE hE [] [(0,.same 0)] [8,9] [0] (An (An (An (zr (some (Src.same 0))) (zr nilP)) (An (An (zr (Ja6 set)) (zr true)) (An (An (zr (iv (↑(set.length):Int))) (zr true)) (An (An (ci (o10 hpre x0 hx0 y1)) (zr nilN)) (An (An (ci (o11 hpre x0 hx0 y1)) (zr nilN)) tv))))) (An (An (An (zr (OB.cells 71 (cFrm f))) (zr true)) tv) (An (zr true) (zr true))))) (o12 hpre x0 hx0 y1) (o13 hpre x0 hx0 y1)
 ·refine Jaa ?_
  refine Ja0 ?_
  refine zR [4] [] (Ak 2 tv) ?_
  refine Ja5 ?_
  exact zT [] (An (Ak 1 tv) (An (An (ci (o14 hpre x0 hx0 y1)) (zr nilN)) (An (zr true) (An (zr true) (zr true)))))
theorem t78 (f:Frm) (set:List Int):Ja4 Tryz.prog 78 (s78 f set):=by
 apply w78
 all_goals (try delta ql qm qn)
 case o6=>intro hp x hx h; simp only [decide_eq_true_eq] at h; have:=(JbV hp.2).1; omega
 case o7=>intro hp x hx h; simp only [decide_eq_true_eq] at h; have:=Jft hp.1 hp.2 (k:=x) (by omega); exact ⟨by omega,by omega⟩
 case o8=>intro hp x hx h; simp only [decide_eq_true_eq] at h; have h1:=Jft hp.1 hp.2 (k:=x) (by omega); have h2:=Jha hp.1 hp.2 x (by omega); have h3:=(JbV hp.2).1; have h4:=hp.1.strips; exact ⟨by omega,by omega⟩
 case o9=>intro hp x hx h; simp only [decide_eq_true_eq] at h; have h3:=(JbV hp.2).1; have h4:=hp.1.strips; exact ⟨by omega,by omega⟩
 case o10=>intro hp x hx h; exact (Jjh f set x).symm
 case o14=>intro hp x hx h; simp only [decide_eq_false_iff_not] at h; rw [show x=set.length by omega]; rfl
 all_goals (try ((repeat intro _) <;> (try simp only [Bool.cond_true_left,Bool.cond_false_right,Bool.not_not,Bool.not_eq_true',Bool.not_eq_false',Bool.or_eq_true,Bool.or_eq_false_iff,Bool.and_eq_true,decide_eq_true_eq,decide_eq_false_iff_not,inI,big,Jba,Jai,Jbn] at *) <;> first | (exact rfl) | omega | (exact ⟨Nat.zero_le _,fun j hj=>absurd hj (Nat.not_lt_zero j)⟩) | (simp_all; done) | (simp_all; omega)))
abbrev qo (f:Frm) (set:List Int) (Pq:Prop):Prop:=Sound f/\isSet f set=true->Pq
abbrev qp (set:List Int) (x0:Nat) (Pq:Prop):Prop:=x0<=set.length->Pq
abbrev qq (set:List Int) (x0:Nat) (Pq:Prop):Prop:=qp set x0 (decide ((x0:Int) < (↑(set.length):Int))=true->Pq)
theorem w51 (f:Frm) (set:List Int)
 (o0:qo f set (0=ptTo f set 0))
 (o1:qo f set (0=(↑0:Int)))
 (o2:qo f set (0<=set.length))
 (o3:qo f set (∀ (x0:Nat),qq set x0 (0<=(x0:Int))))
 (o4:qo f set (∀ (x0:Nat),qq set x0 ((x0:Int) < (↑(set.length):Int))))
 (o5:qo f set (∀ (x0:Nat),qq set x0 (0<=(x0:Int))))
 (o6:qo f set (∀ (x0:Nat),qq set x0 ((x0:Int) < (↑(f.strips.length):Int))))
 (o7:qo f set (∀ (x0:Nat),qq set x0 (inI (set.getD x0 0 * (stp f x0).thick))))
 (o8:qo f set (∀ (x0:Nat),qq set x0 (inI (ptTo f set x0 + set.getD x0 0 * (stp f x0).thick))))
 (o9:qo f set (∀ (x0:Nat),qq set x0 (inI ((x0:Int) + 1))))
 (o10:qo f set (∀ (x0:Nat),qq set x0 (ptTo f set x0 + set.getD x0 0 * (stp f x0).thick=ptTo f set (x0 + 1))))
 (o11:qo f set (∀ (x0:Nat),qq set x0 ((x0:Int) + 1=(↑(x0 + 1):Int))))
 (o12:qo f set (∀ (x0:Nat),qq set x0 (x0 + 1<=set.length)))
 (o13:qo f set (∀ (x0:Nat),qq set x0 (set.length - (x0 + 1) < set.length - x0)))
 (o14:qo f set (∀ (x0:Nat),qp set x0 (decide ((x0:Int) < (↑(set.length):Int))=false->ptTo f set x0=JaA f set))) :
  Ja4 Tryz.prog 51 (s51 f set):=by
 refine Ja7 Tryz.func51 rfl Tryz.call51 Jaw _ rfl rfl rfl rfl (Nat.le_of_ble_eq_true (by kernel_rfl)) (fun _ _ _ _ h=>h) ?_
 intro hpre C hC _ hE
 obtain ⟨P,w0,E0,av,hA,ro,df⟩:=C
 obtain ⟨rfl,rfl,rfl⟩:=hC
 refine Ja0 ?_
 refine zR [1,2] [0] (Ak 2 tv) ?_
 refine Ja0 ?_
 refine zR [1,2,5] [0] (Ak 1 tv) ?_
 refine Ja0 ?_
 refine Ja0 ?_
 refine zR [1,2,5,6] [0] (Ak 1 tv) ?_
 refine Ja2 ?_
 refine zL (Hint.ann (h51 f set) [(1,Ja6 set),(2,AV.ptr 0 [])] [(0,OB.cells 26 (cFrm f))] 10032) (zE hE [] [(0,.same 0)] [1] [0] (An (An (An (zr (Ja6 set)) (zr true)) (An (An (zr (some (Src.same 0))) (zr nilP)) (An (An (ci (o0 hpre)) (zr nilN)) (An (An (ci (o1 hpre)) (zr nilN)) tv)))) (An (An (An (zr (OB.cells 26 (cFrm f))) (zr true)) tv) (An (zr true) (zr true))))) (o2 hpre) (fun (x0:Nat) hx0 => ?_)
 refine Ja0 ?_
 refine Ja0 ?_
 refine zR [1,2,5,6,10] [0] (Ak 4 tv) ?_
 refine zI (decide ((x0:Int) < (↑(set.length):Int))) (fun y1 => ?_) (fun y1 => ?_)
 ·refine Ja3 ?_
  refine Ja0 ?_
  refine Ja2 ?_
  refine zR [1,2,5,6] [0] (Ak 3 (An (An (o3 hpre x0 hx0 y1) (o4 hpre x0 hx0 y1)) (Ak 4 (An (An (o5 hpre x0 hx0 y1) (o6 hpre x0 hx0 y1)) (Ak 2 (An (o7 hpre x0 hx0 y1) (An (o8 hpre x0 hx0 y1) (Ak 1 tv)))))))) ?_
  refine zR [1,2,5,6] [0] (Ak 1 (An (o9 hpre x0 hx0 y1) (Ak 1 tv))) ?_
  exact zn (zE hE [] [(0,.same 0)] [1] [0] (An (An (An (zr (Ja6 set)) (zr true)) (An (An (zr (some (Src.same 0))) (zr nilP)) (An (An (ci (o10 hpre x0 hx0 y1)) (zr nilN)) (An (An (ci (o11 hpre x0 hx0 y1)) (zr nilN)) tv)))) (An (An (An (zr (OB.cells 26 (cFrm f))) (zr true)) tv) (An (zr true) (zr true))))) (o12 hpre x0 hx0 y1) (o13 hpre x0 hx0 y1)
 ·refine Jaa ?_
  refine Ja0 ?_
  refine zR [4] [] (Ak 2 tv) ?_
  refine Ja5 ?_
  exact zT [] (An (Ak 1 tv) (An (An (ci (o14 hpre x0 hx0 y1)) (zr nilN)) (An (zr true) (An (zr true) (zr true)))))
theorem t51 (f:Frm) (set:List Int):Ja4 Tryz.prog 51 (s51 f set):=by
 apply w51
 all_goals (try delta qo qp qq)
 case o6=>intro hp x hx h; simp only [decide_eq_true_eq] at h; have:=(JbV hp.2).1; omega
 case o7=>intro hp x hx h; simp only [decide_eq_true_eq] at h; have:=Jft hp.1 hp.2 (k:=x) (by omega); exact ⟨by omega,by omega⟩
 case o8=>intro hp x hx h; simp only [decide_eq_true_eq] at h; have h1:=Jft hp.1 hp.2 (k:=x) (by omega); have h2:=Jha hp.1 hp.2 x (by omega); have h3:=(JbV hp.2).1; have h4:=hp.1.strips; exact ⟨by omega,by omega⟩
 case o9=>intro hp x hx h; simp only [decide_eq_true_eq] at h; have h3:=(JbV hp.2).1; have h4:=hp.1.strips; exact ⟨by omega,by omega⟩
 case o10=>intro hp x hx h; exact (Jjh f set x).symm
 case o14=>intro hp x hx h; simp only [decide_eq_false_iff_not] at h; rw [show x=set.length by omega]; rfl
 all_goals (try ((repeat intro _) <;> (try simp only [Bool.cond_true_left,Bool.cond_false_right,Bool.not_not,Bool.not_eq_true',Bool.not_eq_false',Bool.or_eq_true,Bool.or_eq_false_iff,Bool.and_eq_true,decide_eq_true_eq,decide_eq_false_iff_not,inI,big,Jba,Jai,Jbn] at *) <;> first | (exact rfl) | omega | (exact ⟨Nat.zero_le _,fun j hj=>absurd hj (Nat.not_lt_zero j)⟩) | (simp_all; done) | (simp_all; omega)))
abbrev qr (f:Frm) (s:Span) (Pq:Prop):Prop:=Sound f/\0<=s.lo/\s.lo<=s.hi/\s.hi<=1000->Pq
theorem w64 (f:Frm) (s:Span)
 (o0:qr f s (inI (f.length - f.slack)))
 (o1:qr f s (inI (f.length - f.slack - s.lo)))
 (o2:qr f s (inI (f.length - s.hi)))
 (o3:qr f s (max 0 (f.length - f.slack - s.lo)=(Jen f s).lo))
 (o4:qr f s (f.length - s.hi=(Jen f s).hi)) :
  Ja4 Tryz.prog 64 (s64 f s):=by
 refine Ja7 Tryz.func64 rfl Tryz.call64 Jaw _ rfl rfl rfl rfl (Nat.le_of_ble_eq_true (by kernel_rfl)) (fun _ _ _ _ h=>h) ?_
 intro hpre C hC _ hE
 obtain ⟨P,w0,E0,av,hA,ro,df⟩:=C
 obtain ⟨rfl,rfl,rfl⟩:=hC
 refine Ja0 ?_
 refine zR [2,3,4] [0,8,16] (Ak 3 tv) ?_
 refine Ja0 ?_
 refine zR [4] [16] (Ak 6 (An (o0 hpre) (Ak 2 (An (o1 hpre) (Ak 6 (An (o2 hpre) (Ak 2 tv))))))) ?_
 refine Ja5 ?_
 exact zT [] (An (Ak 1 tv) (An (An (An (ci (o3 hpre)) (zr nilN)) (An (An (ci (o4 hpre)) (zr nilN)) tv)) (An (zr true) (An (zr true) (zr true)))))
theorem t64 (f:Frm) (s:Span):Ja4 Tryz.prog 64 (s64 f s):=by
 apply w64
 all_goals (try delta qr)
 all_goals (first | (intro hp; have h1:=hp.1.len; have h2:=hp.1.slack; exact ⟨by omega,by omega⟩) | skip)
 all_goals (try ((repeat intro _) <;> (try simp only [Bool.cond_true_left,Bool.cond_false_right,Bool.not_not,Bool.not_eq_true',Bool.not_eq_false',Bool.or_eq_true,Bool.or_eq_false_iff,Bool.and_eq_true,decide_eq_true_eq,decide_eq_false_iff_not,inI,big,Jba,Jai,Jbn] at *) <;> first | (exact rfl) | omega | (exact ⟨Nat.zero_le _,fun j hj=>absurd hj (Nat.not_lt_zero j)⟩) | (simp_all; done) | (simp_all; omega)))
theorem w70 (f:Frm) (n:Int)
  (o0:Sound f->inI (Frm.length f - Frm.slack f))
  (o1:Sound f->Ja1 n (f.length - f.slack) f.length=JaU f n) :
  Ja4 Tryz.prog 70 (s70 f n):=by
 refine Ja7 Tryz.func70 rfl Tryz.call70 Jaw _ rfl rfl rfl rfl (Nat.le_of_ble_eq_true (by kernel_rfl)) (fun _ _ _ _ h=>h) ?_
 intro hpre C hC _ hE
 obtain ⟨P,w0,E0,av,hA,ro,df⟩:=C
 obtain ⟨rfl,rfl,rfl⟩:=hC
 refine Ja0 ?_
 refine zR [1,2] [0] (Ak 2 tv) ?_
 refine Ja0 ?_
 refine zC ([(8,CallSpec.eq (s17 n (f.length - f.slack) f.length) [true,true,true])]) [4] [] (Ak 5 (An (o0 hpre) (Ak 2 (An (An (An (zr (iv n)) (An (zr (iv (f.length - f.slack))) (An (zr (iv f.length)) tv))) (An (t17 (n) (f.length - f.slack) f.length) (Ak 2 (fun (i0:Env)=>tv)))) (Ak 1 tv))))) ?_
 refine Ja5 ?_
 exact zT [] (An (Ak 1 tv) (An (An (cb (o1 hpre)) (zr nilN)) (An (zr true) (An (zr true) (zr true)))))
theorem t70 (f:Frm) (n:Int):Ja4 Tryz.prog 70 (s70 f n):=by
 apply w70
 case o0=>intro hp; have h1:=hp.len; have h2:=hp.slack; exact ⟨by omega,by omega⟩
 all_goals (try ((repeat intro _) <;> (try simp only [Bool.cond_true_left,Bool.cond_false_right,Bool.not_not,Bool.not_eq_true',Bool.not_eq_false',Bool.or_eq_true,Bool.or_eq_false_iff,Bool.and_eq_true,decide_eq_true_eq,decide_eq_false_iff_not,inI,big,Jba,Jai,Jbn] at *) <;> first | (exact rfl) | omega | (exact ⟨Nat.zero_le _,fun j hj=>absurd hj (Nat.not_lt_zero j)⟩) | (simp_all; done) | (simp_all; omega)))
abbrev qs (f:Frm) (Pq:Prop):Prop:=Jba f/\f.columns.length<=3->Pq
abbrev qt (f:Frm) (x0:Nat) (Pq:Prop):Prop:=x0<=f.columns.length->Pq
abbrev qu (f:Frm) (x0:Nat) (Pq:Prop):Prop:=qt f x0 (decide ((x0:Int) < (↑(f.columns.length):Int))=true->Pq)
abbrev qv (f:Frm) (x0:Nat) (x2:Nat) (Pq:Prop):Prop:=x2<=(col f x0).length->Pq
abbrev qw (f:Frm) (x0:Nat) (x2:Nat) (Pq:Prop):Prop:=qv f x0 x2 (decide ((x2:Int) < (↑((col f x0).length):Int))=true->Pq)
abbrev qx (f:Frm) (p:Int) (x0:Nat) (x2:Nat) (Pq:Prop):Prop:=qw f x0 x2 (decide ((col f x0).getD x2 0=p)=true->Pq)
abbrev qy (f:Frm) (p:Int) (x0:Nat) (x2:Nat) (Pq:Prop):Prop:=qw f x0 x2 (decide ((col f x0).getD x2 0=p)=false->Pq)
abbrev qz (f:Frm) (x0:Nat) (x2:Nat) (Pq:Prop):Prop:=qv f x0 x2 (decide ((x2:Int) < (↑((col f x0).length):Int))=false->Pq)
theorem w19 (f:Frm) (p:Int)
 (o0:qs f (0=cntL (JaT f 0 0) p))
 (o1:qs f (0=(↑0:Int)))
 (o2:qs f (0<=f.columns.length))
 (o3:qs f (∀ (x0:Nat),qu f x0 (0=(↑0:Int))))
 (o4:qs f (∀ (x0:Nat),qu f x0 (0<=(col f x0).length)))
 (o5:qs f (∀ (x0:Nat),qu f x0 (∀ (x2:Nat),qv f x0 x2 (0<=(x0:Int)))))
 (o6:qs f (∀ (x0:Nat),qu f x0 (∀ (x2:Nat),qv f x0 x2 ((x0:Int) < (↑(f.columns.length):Int)))))
 (o7:qs f (∀ (x0:Nat),qu f x0 (∀ (x2:Nat),qw f x0 x2 (0<=(x0:Int)))))
 (o8:qs f (∀ (x0:Nat),qu f x0 (∀ (x2:Nat),qw f x0 x2 ((x0:Int) < (↑(f.columns.length):Int)))))
 (o9:qs f (∀ (x0:Nat),qu f x0 (∀ (x2:Nat),qw f x0 x2 (0<=(x2:Int)))))
 (o10:qs f (∀ (x0:Nat),qu f x0 (∀ (x2:Nat),qw f x0 x2 ((x2:Int) < (↑((col f x0).length):Int)))))
 (o11:qs f (∀ (x0:Nat),qu f x0 (∀ (x2:Nat),qx f p x0 x2 (inI (cntL (JaT f x0 x2) p + 1)))))
 (o12:qs f (∀ (x0:Nat),qu f x0 (∀ (x2:Nat),qx f p x0 x2 (inI ((x2:Int) + 1)))))
 (o13:qs f (∀ (x0:Nat),qu f x0 (∀ (x2:Nat),qx f p x0 x2 (cntL (JaT f x0 x2) p + 1=cntL (JaT f x0 (x2 + 1)) p))))
 (o14:qs f (∀ (x0:Nat),qu f x0 (∀ (x2:Nat),qx f p x0 x2 ((x2:Int) + 1=(↑(x2 + 1):Int)))))
 (o15:qs f (∀ (x0:Nat),qu f x0 (∀ (x2:Nat),qx f p x0 x2 (x2 + 1<=(col f x0).length))))
 (o16:qs f (∀ (x0:Nat),qu f x0 (∀ (x2:Nat),qx f p x0 x2 ((col f x0).length - (x2 + 1) < (col f x0).length - x2))))
 (o17:qs f (∀ (x0:Nat),qu f x0 (∀ (x2:Nat),qy f p x0 x2 (inI ((x2:Int) + 1)))))
 (o18:qs f (∀ (x0:Nat),qu f x0 (∀ (x2:Nat),qy f p x0 x2 (cntL (JaT f x0 x2) p=cntL (JaT f x0 (x2 + 1)) p))))
 (o19:qs f (∀ (x0:Nat),qu f x0 (∀ (x2:Nat),qy f p x0 x2 ((x2:Int) + 1=(↑(x2 + 1):Int)))))
 (o20:qs f (∀ (x0:Nat),qu f x0 (∀ (x2:Nat),qy f p x0 x2 (x2 + 1<=(col f x0).length))))
 (o21:qs f (∀ (x0:Nat),qu f x0 (∀ (x2:Nat),qy f p x0 x2 ((col f x0).length - (x2 + 1) < (col f x0).length - x2))))
 (o22:qs f (∀ (x0:Nat),qu f x0 (∀ (x2:Nat),qz f x0 x2 (inI ((x0:Int) + 1)))))
 (o23:qs f (∀ (x0:Nat),qu f x0 (∀ (x2:Nat),qz f x0 x2 (cntL (JaT f x0 x2) p=cntL (JaT f (x0 + 1) 0) p))))
 (o24:qs f (∀ (x0:Nat),qu f x0 (∀ (x2:Nat),qz f x0 x2 ((x0:Int) + 1=(↑(x0 + 1):Int)))))
 (o25:qs f (∀ (x0:Nat),qu f x0 (∀ (x2:Nat),qz f x0 x2 (x0 + 1<=f.columns.length))))
 (o26:qs f (∀ (x0:Nat),qu f x0 (∀ (x2:Nat),qz f x0 x2 (f.columns.length - (x0 + 1) < f.columns.length - x0))))
 (o27:qs f (∀ (x0:Nat),qt f x0 (decide ((x0:Int) < (↑(f.columns.length):Int))=false->cntL (JaT f x0 0) p=cntL (allC f) p))) :
  Ja4 Tryz.prog 19 (s19 f p):=by
 refine Ja7 Tryz.func19 rfl Tryz.call19 Jaw _ rfl rfl rfl rfl (Nat.le_of_ble_eq_true (by kernel_rfl)) (fun _ _ _ _ h=>h) ?_
 intro hpre C hC _ hE
 obtain ⟨P,w0,E0,av,hA,ro,df⟩:=C
 obtain ⟨rfl,rfl,rfl⟩:=hC
 refine Ja0 ?_
 refine zR [1,2] [0] (Ak 2 tv) ?_
 refine Ja0 ?_
 refine zR [1,2,5] [0] (Ak 1 tv) ?_
 refine Ja0 ?_
 refine Ja0 ?_
 refine zR [1,2,5,6] [0] (Ak 1 tv) ?_
 refine Ja2 ?_
 refine zL (Hint.ann (h19a f p) [(1,iv p),(2,AV.ptr 0 [])] [(0,OB.cells 26 (cFrm f))] 10032) (zE hE [] [(0,.same 0)] [1] [0] (An (An (An (zr (iv p)) (zr true)) (An (An (zr (some (Src.same 0))) (zr nilP)) (An (An (ci (o0 hpre)) (zr nilN)) (An (An (ci (o1 hpre)) (zr nilN)) tv)))) (An (An (An (zr (OB.cells 26 (cFrm f))) (zr true)) tv) (An (zr true) (zr true))))) (o2 hpre) (fun (x0:Nat) hx0 => ?_)
 refine Ja0 ?_
 refine Ja0 ?_
 refine zR [1,2,5,6,12] [0] (Ak 5 tv) ?_
 refine zI (decide ((x0:Int) < (↑(f.columns.length):Int))) (fun y1 => ?_) (fun y1 => ?_)
 ·refine Ja3 ?_
  refine Ja0 ?_
  refine Ja2 ?_
  refine Ja0 ?_
  refine zR [1,2,5,6,7] [0] (Ak 1 tv) ?_
  refine Ja2 ?_
  refine zL (Hint.ann (h19b f p x0) [(1,iv p),(2,AV.ptr 0 []),(6,iv (x0:Int))] [(0,OB.cells 26 (cFrm f))] 20080) (zE hE [] [(0,.same 0)] [1,6,5] [0] (An (An (An (zr (iv p)) (zr true)) (An (An (zr (some (Src.same 0))) (zr nilP)) (An (An (zr (iv (x0:Int))) (zr true)) (An (An (zr (iv (cntL (JaT f x0 0) p))) (zr true)) (An (An (ci (o3 hpre x0 hx0 y1)) (zr nilN)) tv))))) (An (An (An (zr (OB.cells 26 (cFrm f))) (zr true)) tv) (An (zr true) (zr true))))) (o4 hpre x0 hx0 y1) (fun (x2:Nat) hx2 => ?_)
  refine Ja0 ?_
  refine Ja0 ?_
  refine zR [1,2,6,5,7,22] [0] (Ak 4 (An (An (o5 hpre x0 hx0 y1 x2 hx2) (o6 hpre x0 hx0 y1 x2 hx2)) (Ak 3 tv))) ?_
  refine zI (decide ((x2:Int) < (↑((col f x0).length):Int))) (fun y3 => ?_) (fun y3 => ?_)
  ·refine Ja3 ?_
   refine Ja0 ?_
   refine Ja2 ?_
   refine Ja0 ?_
   refine zR [1,2,6,5,7,34] [0] (Ak 3 (An (An (o7 hpre x0 hx0 y1 x2 hx2 y3) (o8 hpre x0 hx0 y1 x2 hx2 y3)) (Ak 2 (An (An (o9 hpre x0 hx0 y1 x2 hx2 y3) (o10 hpre x0 hx0 y1 x2 hx2 y3)) (Ak 3 tv))))) ?_
   refine zI (decide ((col f x0).getD x2 0=p)) (fun y4 => ?_) (fun y4 => ?_)
   ·refine zR [1,2,6,5,7] [0] (Ak 1 (An (o11 hpre x0 hx0 y1 x2 hx2 y3 y4) (Ak 1 tv))) ?_
    refine zR [1,2,6,5,7] [0] (Ak 1 (An (o12 hpre x0 hx0 y1 x2 hx2 y3 y4) (Ak 1 tv))) ?_
    exact zn (zE hE [] [(0,.same 0)] [1,6] [0] (An (An (An (zr (iv p)) (zr true)) (An (An (zr (some (Src.same 0))) (zr nilP)) (An (An (zr (iv (x0:Int))) (zr true)) (An (An (ci (o13 hpre x0 hx0 y1 x2 hx2 y3 y4)) (zr nilN)) (An (An (ci (o14 hpre x0 hx0 y1 x2 hx2 y3 y4)) (zr nilN)) tv))))) (An (An (An (zr (OB.cells 26 (cFrm f))) (zr true)) tv) (An (zr true) (zr true))))) (o15 hpre x0 hx0 y1 x2 hx2 y3 y4) (o16 hpre x0 hx0 y1 x2 hx2 y3 y4)
   ·refine Ja3 ?_
    refine zR [1,2,6,5,7] [0] (Ak 1 (An (o17 hpre x0 hx0 y1 x2 hx2 y3 y4) (Ak 1 tv))) ?_
    exact zn (zE hE [] [(0,.same 0)] [1,6] [0] (An (An (An (zr (iv p)) (zr true)) (An (An (zr (some (Src.same 0))) (zr nilP)) (An (An (zr (iv (x0:Int))) (zr true)) (An (An (ci (o18 hpre x0 hx0 y1 x2 hx2 y3 y4)) (zr nilN)) (An (An (ci (o19 hpre x0 hx0 y1 x2 hx2 y3 y4)) (zr nilN)) tv))))) (An (An (An (zr (OB.cells 26 (cFrm f))) (zr true)) tv) (An (zr true) (zr true))))) (o20 hpre x0 hx0 y1 x2 hx2 y3 y4) (o21 hpre x0 hx0 y1 x2 hx2 y3 y4)
  ·refine Jaa ?_
   refine zR [1,2,6,5] [0] (Ak 1 (An (o22 hpre x0 hx0 y1 x2 hx2 y3) (Ak 1 tv))) ?_
   exact zn (zE hE [] [(0,.same 0)] [1] [0] (An (An (An (zr (iv p)) (zr true)) (An (An (zr (some (Src.same 0))) (zr nilP)) (An (An (ci (o23 hpre x0 hx0 y1 x2 hx2 y3)) (zr nilN)) (An (An (ci (o24 hpre x0 hx0 y1 x2 hx2 y3)) (zr nilN)) tv)))) (An (An (An (zr (OB.cells 26 (cFrm f))) (zr true)) tv) (An (zr true) (zr true))))) (o25 hpre x0 hx0 y1 x2 hx2 y3) (o26 hpre x0 hx0 y1 x2 hx2 y3)
 ·refine Jaa ?_
  refine Ja0 ?_
  refine zR [4] [] (Ak 2 tv) ?_
  refine Ja5 ?_
  exact zT [] (An (Ak 1 tv) (An (An (ci (o27 hpre x0 hx0 y1)) (zr nilN)) (An (zr true) (An (zr true) (zr true)))))
theorem t19 (f:Frm) (p:Int):Ja4 Tryz.prog 19 (s19 f p):=by
 apply w19
 all_goals (try delta qs qt qu qv qw qx qy qz)
 case o11=>intro hp x hx h k hk h2 h3; simp only [decide_eq_true_eq] at h2; have h5:=hp.1.2.2.2; have h4:=Jml f x k 3 big hp.2 h5; have h6:=JpJ (JaT f x k) p; simp only [big] at *; exact ⟨by omega,by omega⟩
 case o12=>intro hp x hx h k hk h2 h3; simp only [decide_eq_true_eq] at h2; have h5:=hp.1.2.2.2 x; simp only [big] at *; exact ⟨by omega,by omega⟩
 case o13=>intro hp x hx h k hk h2 h3; simp only [decide_eq_true_eq] at h2 h3; rw [JeN f (by omega),JjR,if_pos h3]
 case o17=>intro hp x hx h k hk h2 h3; simp only [decide_eq_true_eq] at h2; have h5:=hp.1.2.2.2 x; simp only [big] at *; exact ⟨by omega,by omega⟩
 case o18=>intro hp x hx h k hk h2 h3; simp only [decide_eq_true_eq] at h2; simp only [decide_eq_false_iff_not] at h3; rw [JeN f (by omega),JjR,if_neg h3,Int.add_zero]
 case o23=>intro hp x hx h k hk h2; simp only [decide_eq_true_eq] at h; simp only [decide_eq_false_iff_not] at h2; rw [Jh9 f (by omega) (by omega)]
 case o27=>intro hp x hx h; simp only [decide_eq_false_iff_not] at h; rw [Jjg f (by omega)]
 all_goals (try ((repeat intro _) <;> (try simp only [Bool.cond_true_left,Bool.cond_false_right,Bool.not_not,Bool.not_eq_true',Bool.not_eq_false',Bool.or_eq_true,Bool.or_eq_false_iff,Bool.and_eq_true,decide_eq_true_eq,decide_eq_false_iff_not,inI,big,Jba,Jai,Jbn] at *) <;> first | (exact rfl) | omega | (exact ⟨Nat.zero_le _,fun j hj=>absurd hj (Nat.not_lt_zero j)⟩) | (simp_all; done) | (simp_all; omega)))
abbrev q10 (f:Frm) (Pq:Prop):Prop:=Jai f->Pq
abbrev q11 (f:Frm) (x36:Nat) (Pq:Prop):Prop:=x36<=f.strips.length->Pq
abbrev q12 (f:Frm) (x36:Nat) (Pq:Prop):Prop:=q11 f x36 (decide ((x36:Int) < (↑(f.strips.length):Int))=true->Pq)
abbrev q13 (f:Frm) (x36:Nat) (Pq:Prop):Prop:=q11 f x36 (decide ((x36:Int) < (↑(f.strips.length):Int))=false->Pq)
abbrev q14 (f:Frm) (x54:Nat) (Pq:Prop):Prop:=x54<=f.pieces.length->Pq
abbrev q15 (f:Frm) (x54:Nat) (Pq:Prop):Prop:=q14 f x54 (decide ((x54:Int) < (↑(f.pieces.length):Int))=true->Pq)
abbrev q16 (f:Frm) (x54:Nat) (Pq:Prop):Prop:=q14 f x54 (decide ((x54:Int) < (↑(f.pieces.length):Int))=false->Pq)
abbrev q17 (f:Frm) (x54:Nat) (Pq:Prop):Prop:=q16 f x54 ((!okP f x54)=false->Pq)
abbrev q18 (f:Frm) (x54:Nat) (Pq:Prop):Prop:=q17 f x54 ((!decide ((↑((srt f).length):Int)=(↑(f.pieces.length):Int)))=false->Pq)
abbrev q19 (f:Frm) (x93:Nat) (Pq:Prop):Prop:=(x93<=(srt f).length /\ ∀ (j:Nat),j < x93->(srt f).getD j 0=(j:Int))->Pq
abbrev q1a (f:Frm) (x93:Nat) (Pq:Prop):Prop:=q19 f x93 (decide ((x93:Int) < (↑((srt f).length):Int))=true->Pq)
abbrev q1b (f:Frm) (x93:Nat) (Pq:Prop):Prop:=q1a f x93 ((!decide ((x93:Int)=(srt f).getD x93 0))=false->Pq)
theorem w39 (f:Frm)
 (o0:q10 f ((bif bif bif bif Ja1 f.length 0 300 then Ja1 f.slack 0 9 else false then decide ((↑(f.strips.length):Int)<=3) else false then decide ((↑(f.pieces.length):Int)<=6) else false then decide ((↑(f.columns.length):Int)<=3) else false)=okS f 0))
 (o1:q10 f (0=(↑0:Int)))
 (o2:q10 f (0<=List.length (Frm.strips f)))
 (o3:q10 f (∀ (x36:Nat),q12 f x36 (0<=(x36:Int))))
 (o4:q10 f (∀ (x36:Nat),q12 f x36 ((x36:Int) < (↑(f.strips.length):Int))))
 (o5:q10 f (∀ (x36:Nat),q12 f x36 (inI ((x36:Int) + 1))))
 (o6:q10 f (∀ (x36:Nat),q12 f x36 ((bif bif okS f x36 then Ja1 (stp f x36).thick 1 30 else false then Ja1 (stp f x36).many 0 4 else false)=okS f (x36 + 1))))
 (o7:q10 f (∀ (x36:Nat),q12 f x36 ((x36:Int) + 1=(↑(x36 + 1):Int))))
 (o8:q10 f (∀ (x36:Nat),q12 f x36 (x36 + 1<=f.strips.length)))
 (o9:q10 f (∀ (x36:Nat),q12 f x36 (f.strips.length - (x36 + 1) < f.strips.length - x36)))
 (o10:q10 f (∀ (x36:Nat),q13 f x36 (okS f x36=okP f 0)))
 (o11:q10 f (∀ (x36:Nat),q13 f x36 (0=(↑0:Int))))
 (o12:q10 f (∀ (x36:Nat),q13 f x36 (0<=f.pieces.length)))
 (o13:q10 f (∀ (x36:Nat),q13 f x36 (∀ (x54:Nat),q15 f x54 (0<=(x54:Int)))))
 (o14:q10 f (∀ (x36:Nat),q13 f x36 (∀ (x54:Nat),q15 f x54 ((x54:Int) < (↑(f.pieces.length):Int)))))
 (o15:q10 f (∀ (x36:Nat),q13 f x36 (∀ (x54:Nat),q15 f x54 (inI ((x54:Int) + 1)))))
 (o16:q10 f (∀ (x36:Nat),q13 f x36 (∀ (x54:Nat),q15 f x54 ((bif bif bif okP f x54 then Ja1 (pc f x54).hi 0 99 else false then Ja1 (pc f x54).lo 0 (pc f x54).hi else false then Ja1 (pc f x54).pence 0 99 else false)=okP f (x54 + 1)))))
 (o17:q10 f (∀ (x36:Nat),q13 f x36 (∀ (x54:Nat),q15 f x54 ((x54:Int) + 1=(↑(x54 + 1):Int)))))
 (o18:q10 f (∀ (x36:Nat),q13 f x36 (∀ (x54:Nat),q15 f x54 (x54 + 1<=f.pieces.length))))
 (o19:q10 f (∀ (x36:Nat),q13 f x36 (∀ (x54:Nat),q15 f x54 (f.pieces.length - (x54 + 1) < f.pieces.length - x54))))
 (o20:q10 f (∀ (x36:Nat),q13 f x36 (∀ (x54:Nat),q16 f x54 ((!okP f x54)=true->30=Jao f))))
 (o21:q10 f (∀ (x36:Nat),q13 f x36 (∀ (x54:Nat),q17 f x54 ((!decide ((↑((srt f).length):Int)=(↑(f.pieces.length):Int)))=true->30=Jao f))))
 (o22:q10 f (∀ (x36:Nat),q13 f x36 (∀ (x54:Nat),q18 f x54 (0=(↑0:Int)))))
 (o23:q10 f (∀ (x36:Nat),q13 f x36 (∀ (x54:Nat),q18 f x54 (0<=(srt f).length /\ ∀ (j:Nat),j < 0->(srt f).getD j 0=(j:Int)))))
 (o24:q10 f (∀ (x36:Nat),q13 f x36 (∀ (x54:Nat),q18 f x54 (∀ (x93:Nat),q1a f x93 (0<=(x93:Int))))))
 (o25:q10 f (∀ (x36:Nat),q13 f x36 (∀ (x54:Nat),q18 f x54 (∀ (x93:Nat),q1a f x93 ((x93:Int) < (↑((srt f).length):Int))))))
 (o26:q10 f (∀ (x36:Nat),q13 f x36 (∀ (x54:Nat),q18 f x54 (∀ (x93:Nat),q1a f x93 ((!decide ((x93:Int)=(srt f).getD x93 0))=true->30=Jao f)))))
 (o27:q10 f (∀ (x36:Nat),q13 f x36 (∀ (x54:Nat),q18 f x54 (∀ (x93:Nat),q1b f x93 (inI ((x93:Int) + 1))))))
 (o28:q10 f (∀ (x36:Nat),q13 f x36 (∀ (x54:Nat),q18 f x54 (∀ (x93:Nat),q1b f x93 ((x93:Int) + 1=(↑(x93 + 1):Int))))))
 (o29:q10 f (∀ (x36:Nat),q13 f x36 (∀ (x54:Nat),q18 f x54 (∀ (x93:Nat),q1b f x93 (x93 + 1<=(srt f).length /\ ∀ (j:Nat),j < x93 + 1->(srt f).getD j 0=(j:Int))))))
 (o30:q10 f (∀ (x36:Nat),q13 f x36 (∀ (x54:Nat),q18 f x54 (∀ (x93:Nat),q1b f x93 ((srt f).length - (x93 + 1) < (srt f).length - x93)))))
 (o31:q10 f (∀ (x36:Nat),q13 f x36 (∀ (x54:Nat),q18 f x54 (∀ (x93:Nat),q19 f x93 (decide ((x93:Int) < (↑((srt f).length):Int))=false->0=Jao f))))) :
  Ja4 Tryz.prog 39 (s39 f):=by
 refine Ja7 Tryz.func39 rfl Tryz.call39 Jaw _ rfl rfl rfl rfl (Nat.le_of_ble_eq_true (by kernel_rfl)) (fun _ _ _ _ h=>h) ?_
 intro hpre C hC _ hE
 obtain ⟨P,w0,E0,av,hA,ro,df⟩:=C
 obtain ⟨rfl,rfl,rfl⟩:=hC
 refine Ja0 ?_
 refine zR [1] [0] (Ak 2 tv) ?_
 refine Ja0 ?_
 refine zC ([(2,CallSpec.eq (s57 f.length 0 300) [true,true,true]),(6,CallSpec.eq (s57 f.slack 0 9) [true,true,true])]) [1,3] [0] (Ak 2 (An (An (An (zr (iv f.length)) (An (zr (iv 0)) (An (zr (iv 300)) tv))) (An (t57 f.length (0) (300)) (Ak 2 (fun (i0:Env)=>tv)))) (Ak 1 (An (fun (y1:Ja1 f.length 0 300=true)=>(An (Ak 1 tv) tv)) (An (fun (y2:Ja1 f.length 0 300=true)=>(An (An (fun (y3:Ja1 f.length 0 300=true)=>y2) tv) tv)) (An (fun (y4:Ja1 f.length 0 300=true)=>(An (Ak 1 (An (fun (y5:Ja1 f.length 0 300=true)=>y4) (Ak 2 tv))) (An (An (zr (iv f.slack)) (An (zr (iv 0)) (An (zr (iv 9)) tv))) (An (t57 f.slack (0) (9)) (Ak 2 (fun (i6:Env)=>tv)))))) (An (An (fun (y7:Ja1 f.length 0 300=true)=>y7) (fun (y8:Ja1 f.length 0 300=false)=>tv)) (Ak 1 (An (fun (y9:(bif Ja1 f.length 0 300 then Ja1 f.slack 0 9 else false)=true)=>(An (Ak 1 tv) tv)) (An (fun (y10:(bif Ja1 f.length 0 300 then Ja1 f.slack 0 9 else false)=true)=>(An (An (fun (y11:(bif Ja1 f.length 0 300 then Ja1 f.slack 0 9 else false)=true)=>y10) tv) tv)) (An (fun (y12:(bif Ja1 f.length 0 300 then Ja1 f.slack 0 9 else false)=true)=>(An (An (fun (y13:(bif Ja1 f.length 0 300 then Ja1 f.slack 0 9 else false)=true)=>y12) tv) tv)) (An (fun (y14:(bif Ja1 f.length 0 300 then Ja1 f.slack 0 9 else false)=true)=>(An (An (fun (y15:(bif Ja1 f.length 0 300 then Ja1 f.slack 0 9 else false)=true)=>y14) (Ak 1 tv)) tv)) (An (An (fun (y16:(bif Ja1 f.length 0 300 then Ja1 f.slack 0 9 else false)=true)=>y16) (fun (y17:(bif Ja1 f.length 0 300 then Ja1 f.slack 0 9 else false)=false)=>tv)) (Ak 1 (An (fun (y18:(bif bif Ja1 f.length 0 300 then Ja1 f.slack 0 9 else false then decide ((↑(f.strips.length):Int)<=3) else false)=true)=>(An (Ak 1 tv) tv)) (An (fun (y19:(bif bif Ja1 f.length 0 300 then Ja1 f.slack 0 9 else false then decide ((↑(f.strips.length):Int)<=3) else false)=true)=>(An (An (fun (y20:(bif bif Ja1 f.length 0 300 then Ja1 f.slack 0 9 else false then decide ((↑(f.strips.length):Int)<=3) else false)=true)=>y19) tv) tv)) (An (fun (y21:(bif bif Ja1 f.length 0 300 then Ja1 f.slack 0 9 else false then decide ((↑(f.strips.length):Int)<=3) else false)=true)=>(An (An (fun (y22:(bif bif Ja1 f.length 0 300 then Ja1 f.slack 0 9 else false then decide ((↑(f.strips.length):Int)<=3) else false)=true)=>y21) tv) tv)) (An (fun (y23:(bif bif Ja1 f.length 0 300 then Ja1 f.slack 0 9 else false then decide ((↑(f.strips.length):Int)<=3) else false)=true)=>(An (An (fun (y24:(bif bif Ja1 f.length 0 300 then Ja1 f.slack 0 9 else false then decide ((↑(f.strips.length):Int)<=3) else false)=true)=>y23) (Ak 1 tv)) tv)) (An (An (fun (y25:(bif bif Ja1 f.length 0 300 then Ja1 f.slack 0 9 else false then decide ((↑(f.strips.length):Int)<=3) else false)=true)=>y25) (fun (y26:(bif bif Ja1 f.length 0 300 then Ja1 f.slack 0 9 else false then decide ((↑(f.strips.length):Int)<=3) else false)=false)=>tv)) (Ak 1 (An (fun (y27:(bif bif bif Ja1 f.length 0 300 then Ja1 f.slack 0 9 else false then decide ((↑(f.strips.length):Int)<=3) else false then decide ((↑(f.pieces.length):Int)<=6) else false)=true)=>(An (Ak 1 tv) tv)) (An (fun (y28:(bif bif bif Ja1 f.length 0 300 then Ja1 f.slack 0 9 else false then decide ((↑(f.strips.length):Int)<=3) else false then decide ((↑(f.pieces.length):Int)<=6) else false)=true)=>(An (An (fun (y29:(bif bif bif Ja1 f.length 0 300 then Ja1 f.slack 0 9 else false then decide ((↑(f.strips.length):Int)<=3) else false then decide ((↑(f.pieces.length):Int)<=6) else false)=true)=>y28) tv) tv)) (An (fun (y30:(bif bif bif Ja1 f.length 0 300 then Ja1 f.slack 0 9 else false then decide ((↑(f.strips.length):Int)<=3) else false then decide ((↑(f.pieces.length):Int)<=6) else false)=true)=>(An (An (fun (y31:(bif bif bif Ja1 f.length 0 300 then Ja1 f.slack 0 9 else false then decide ((↑(f.strips.length):Int)<=3) else false then decide ((↑(f.pieces.length):Int)<=6) else false)=true)=>y30) tv) tv)) (An (fun (y32:(bif bif bif Ja1 f.length 0 300 then Ja1 f.slack 0 9 else false then decide ((↑(f.strips.length):Int)<=3) else false then decide ((↑(f.pieces.length):Int)<=6) else false)=true)=>(An (An (fun (y33:(bif bif bif Ja1 f.length 0 300 then Ja1 f.slack 0 9 else false then decide ((↑(f.strips.length):Int)<=3) else false then decide ((↑(f.pieces.length):Int)<=6) else false)=true)=>y32) (Ak 1 tv)) tv)) (An (An (fun (y34:(bif bif bif Ja1 f.length 0 300 then Ja1 f.slack 0 9 else false then decide ((↑(f.strips.length):Int)<=3) else false then decide ((↑(f.pieces.length):Int)<=6) else false)=true)=>y34) (fun (y35:(bif bif bif Ja1 f.length 0 300 then Ja1 f.slack 0 9 else false then decide ((↑(f.strips.length):Int)<=3) else false then decide ((↑(f.pieces.length):Int)<=6) else false)=false)=>tv)) (Ak 1 tv)))))))))))))))))))))))))) ?_
 refine Ja0 ?_
 refine Ja0 ?_
 refine zR [1,3,38,39,40] [0] (Ak 4 tv) ?_
 refine Ja2 ?_
 refine zL (Hint.ann (h39a f) [(1,AV.ptr 0 []),(38,AV.sl 2 f.strips.length fun (i:Nat)=>JaK (stp f i)),(39,iv (↑(f.strips.length):Int))] [(0,OB.cells 26 (cFrm f))] 10264) (zE hE [] [(0,.same 0)] [38,39] [0] (An (An (An (zr (some (Src.same 0))) (zr nilP)) (An (An (zr (AV.sl 2 f.strips.length fun (i:Nat)=>JaK (stp f i))) (zr true)) (An (An (zr (iv (↑(f.strips.length):Int))) (zr true)) (An (An (cb (o0 hpre)) (zr nilN)) (An (An (ci (o1 hpre)) (zr nilN)) tv))))) (An (An (An (zr (OB.cells 26 (cFrm f))) (zr true)) tv) (An (zr true) (zr true))))) (o2 hpre) (fun (x36:Nat) hx36 => ?_)
 refine Ja0 ?_
 refine zR [1,38,39,3,40,41] [0] (Ak 1 tv) ?_
 refine Ja0 ?_
 refine zI (decide ((x36:Int) < (↑(f.strips.length):Int))) (fun y37 => ?_) (fun y37 => ?_)
 ·refine Ja3 ?_
  refine Ja0 ?_
  refine Ja2 ?_
  refine Ja0 ?_
  refine zR [1,38,39,3,40,5] [0,10288] (An (An (o3 hpre x36 hx36 y37) (o4 hpre x36 hx36 y37)) (Ak 3 tv)) ?_
  refine zC ([(4,CallSpec.eq (s57 (stp f x36).thick 1 30) [true,true,true]),(9,CallSpec.eq (s57 (stp f x36).many 0 4) [true,true,true])]) [1,38,39,3,40] [0] (Ak 2 (An (fun (y38:okS f x36=true)=>(An (Ak 1 tv) tv)) (An (fun (y39:okS f x36=true)=>(An (An (fun (y40:okS f x36=true)=>y39) tv) tv)) (An (fun (y41:okS f x36=true)=>(An (Ak 1 (An (fun (y42:okS f x36=true)=>y41) (Ak 2 tv))) (An (An (zr (iv (stp f x36).thick)) (An (zr (iv 1)) (An (zr (iv 30)) tv))) (An (t57 (stp f x36).thick (1) (30)) (Ak 2 (fun (i43:Env)=>tv)))))) (An (An (fun (y44:okS f x36=true)=>y44) (fun (y45:okS f x36=false)=>tv)) (Ak 1 (An (fun (y46:(bif okS f x36 then Ja1 (stp f x36).thick 1 30 else false)=true)=>(An (Ak 1 tv) tv)) (An (fun (y47:(bif okS f x36 then Ja1 (stp f x36).thick 1 30 else false)=true)=>(An (An (fun (y48:(bif okS f x36 then Ja1 (stp f x36).thick 1 30 else false)=true)=>y47) tv) tv)) (An (fun (y49:(bif okS f x36 then Ja1 (stp f x36).thick 1 30 else false)=true)=>(An (Ak 1 (An (fun (y50:(bif okS f x36 then Ja1 (stp f x36).thick 1 30 else false)=true)=>y49) (Ak 2 tv))) (An (An (zr (iv (stp f x36).many)) (An (zr (iv 0)) (An (zr (iv 4)) tv))) (An (t57 (stp f x36).many (0) (4)) (Ak 2 (fun (i51:Env)=>tv)))))) (An (An (fun (y52:(bif okS f x36 then Ja1 (stp f x36).thick 1 30 else false)=true)=>y52) (fun (y53:(bif okS f x36 then Ja1 (stp f x36).thick 1 30 else false)=false)=>tv)) (Ak 1 tv))))))))))) ?_
  refine zR [1,38,39,3,40] [0] (An (o5 hpre x36 hx36 y37) (Ak 1 tv)) ?_
  exact zn (zE hE [] [(0,.same 0)] [38,39] [0] (An (An (An (zr (some (Src.same 0))) (zr nilP)) (An (An (zr (AV.sl 2 f.strips.length fun (i:Nat)=>JaK (stp f i))) (zr true)) (An (An (zr (iv (↑(f.strips.length):Int))) (zr true)) (An (An (cb (o6 hpre x36 hx36 y37)) (zr nilN)) (An (An (ci (o7 hpre x36 hx36 y37)) (zr nilN)) tv))))) (An (An (An (zr (OB.cells 26 (cFrm f))) (zr true)) tv) (An (zr true) (zr true))))) (o8 hpre x36 hx36 y37) (o9 hpre x36 hx36 y37)
 ·refine Jaa ?_
  refine Ja0 ?_
  refine Ja0 ?_
  refine zR [1,3,57,58,59] [0] (Ak 4 tv) ?_
  refine Ja2 ?_
  refine zL (Hint.ann (h39b f) [(1,AV.ptr 0 []),(57,AV.sl 3 f.pieces.length fun (i:Nat)=>JaD (pc f i)),(58,iv (↑(f.pieces.length):Int))] [(0,OB.cells 26 (cFrm f))] 20304) (zE hE [] [(0,.same 0)] [57,58] [0] (An (An (An (zr (some (Src.same 0))) (zr nilP)) (An (An (zr (AV.sl 3 f.pieces.length fun (i:Nat)=>JaD (pc f i))) (zr true)) (An (An (zr (iv (↑(f.pieces.length):Int))) (zr true)) (An (An (cb (o10 hpre x36 hx36 y37)) (zr nilN)) (An (An (ci (o11 hpre x36 hx36 y37)) (zr nilN)) tv))))) (An (An (An (zr (OB.cells 26 (cFrm f))) (zr true)) tv) (An (zr true) (zr true))))) (o12 hpre x36 hx36 y37) (fun (x54:Nat) hx54 => ?_)
  refine Ja0 ?_
  refine zR [1,57,58,3,59,60] [0] (Ak 1 tv) ?_
  refine Ja0 ?_
  refine zI (decide ((x54:Int) < (↑(f.pieces.length):Int))) (fun y55 => ?_) (fun y55 => ?_)
  ·refine Ja3 ?_
   refine Ja0 ?_
   refine Ja2 ?_
   refine Ja0 ?_
   refine zR [1,57,58,3,59,7] [0,20328] (An (An (o13 hpre x36 hx36 y37 x54 hx54 y55) (o14 hpre x36 hx36 y37 x54 hx54 y55)) (Ak 3 tv)) ?_
   refine zC ([(5,CallSpec.eq (s57 (pc f x54).hi 0 99) [true,true,true]),(14,CallSpec.eq (s57 (pc f x54).lo 0 (pc f x54).hi) [true,true,true]),(19,CallSpec.eq (s57 (pc f x54).pence 0 99) [true,true,true])]) [1,57,58,3,59] [0] (Ak 2 (An (fun (y56:okP f x54=true)=>(An (Ak 1 tv) tv)) (An (fun (y57:okP f x54=true)=>(An (An (fun (y58:okP f x54=true)=>y57) tv) tv)) (An (fun (y59:okP f x54=true)=>(An (An (fun (y60:okP f x54=true)=>y59) tv) tv)) (An (fun (y61:okP f x54=true)=>(An (Ak 1 (An (fun (y62:okP f x54=true)=>y61) (Ak 2 tv))) (An (An (zr (iv (pc f x54).hi)) (An (zr (iv 0)) (An (zr (iv 99)) tv))) (An (t57 (pc f x54).hi (0) (99)) (Ak 2 (fun (i63:Env)=>tv)))))) (An (An (fun (y64:okP f x54=true)=>y64) (fun (y65:okP f x54=false)=>tv)) (Ak 1 (An (fun (y66:(bif okP f x54 then Ja1 (pc f x54).hi 0 99 else false)=true)=>(An (Ak 1 tv) tv)) (An (fun (y67:(bif okP f x54 then Ja1 (pc f x54).hi 0 99 else false)=true)=>(An (An (fun (y68:(bif okP f x54 then Ja1 (pc f x54).hi 0 99 else false)=true)=>y67) tv) tv)) (An (fun (y69:(bif okP f x54 then Ja1 (pc f x54).hi 0 99 else false)=true)=>(An (An (fun (y70:(bif okP f x54 then Ja1 (pc f x54).hi 0 99 else false)=true)=>y69) tv) tv)) (An (fun (y71:(bif okP f x54 then Ja1 (pc f x54).hi 0 99 else false)=true)=>(An (Ak 1 tv) tv)) (An (fun (y72:(bif okP f x54 then Ja1 (pc f x54).hi 0 99 else false)=true)=>(An (An (fun (y73:(bif okP f x54 then Ja1 (pc f x54).hi 0 99 else false)=true)=>y72) tv) tv)) (An (fun (y74:(bif okP f x54 then Ja1 (pc f x54).hi 0 99 else false)=true)=>(An (An (fun (y75:(bif okP f x54 then Ja1 (pc f x54).hi 0 99 else false)=true)=>y74) tv) tv)) (An (fun (y76:(bif okP f x54 then Ja1 (pc f x54).hi 0 99 else false)=true)=>(An (Ak 1 (An (fun (y77:(bif okP f x54 then Ja1 (pc f x54).hi 0 99 else false)=true)=>y76) (Ak 1 (An (fun (y78:(bif okP f x54 then Ja1 (pc f x54).hi 0 99 else false)=true)=>y76) tv)))) (An (An (zr (iv (pc f x54).lo)) (An (zr (iv 0)) (An (zr (iv (pc f x54).hi)) tv))) (An (t57 (pc f x54).lo (0) (pc f x54).hi) (Ak 2 (fun (i79:Env)=>tv)))))) (An (An (fun (y80:(bif okP f x54 then Ja1 (pc f x54).hi 0 99 else false)=true)=>y80) (fun (y81:(bif okP f x54 then Ja1 (pc f x54).hi 0 99 else false)=false)=>tv)) (Ak 1 (An (fun (y82:(bif bif okP f x54 then Ja1 (pc f x54).hi 0 99 else false then Ja1 (pc f x54).lo 0 (pc f x54).hi else false)=true)=>(An (Ak 1 tv) tv)) (An (fun (y83:(bif bif okP f x54 then Ja1 (pc f x54).hi 0 99 else false then Ja1 (pc f x54).lo 0 (pc f x54).hi else false)=true)=>(An (An (fun (y84:(bif bif okP f x54 then Ja1 (pc f x54).hi 0 99 else false then Ja1 (pc f x54).lo 0 (pc f x54).hi else false)=true)=>y83) tv) tv)) (An (fun (y85:(bif bif okP f x54 then Ja1 (pc f x54).hi 0 99 else false then Ja1 (pc f x54).lo 0 (pc f x54).hi else false)=true)=>(An (Ak 1 (An (fun (y86:(bif bif okP f x54 then Ja1 (pc f x54).hi 0 99 else false then Ja1 (pc f x54).lo 0 (pc f x54).hi else false)=true)=>y85) (Ak 2 tv))) (An (An (zr (iv (pc f x54).pence)) (An (zr (iv 0)) (An (zr (iv 99)) tv))) (An (t57 (pc f x54).pence (0) (99)) (Ak 2 (fun (i87:Env)=>tv)))))) (An (An (fun (y88:(bif bif okP f x54 then Ja1 (pc f x54).hi 0 99 else false then Ja1 (pc f x54).lo 0 (pc f x54).hi else false)=true)=>y88) (fun (y89:(bif bif okP f x54 then Ja1 (pc f x54).hi 0 99 else false then Ja1 (pc f x54).lo 0 (pc f x54).hi else false)=false)=>tv)) (Ak 1 tv))))))))))))))))))))) ?_
   refine zR [1,57,58,3,59] [0] (An (o15 hpre x36 hx36 y37 x54 hx54 y55) (Ak 1 tv)) ?_
   exact zn (zE hE [] [(0,.same 0)] [57,58] [0] (An (An (An (zr (some (Src.same 0))) (zr nilP)) (An (An (zr (AV.sl 3 f.pieces.length fun (i:Nat)=>JaD (pc f i))) (zr true)) (An (An (zr (iv (↑(f.pieces.length):Int))) (zr true)) (An (An (cb (o16 hpre x36 hx36 y37 x54 hx54 y55)) (zr nilN)) (An (An (ci (o17 hpre x36 hx36 y37 x54 hx54 y55)) (zr nilN)) tv))))) (An (An (An (zr (OB.cells 26 (cFrm f))) (zr true)) tv) (An (zr true) (zr true))))) (o18 hpre x36 hx36 y37 x54 hx54 y55) (o19 hpre x36 hx36 y37 x54 hx54 y55)
  ·refine Jaa ?_
   refine Ja0 ?_
   refine Ja0 ?_
   refine zR [1,86] [0] (Ak 2 tv) ?_
   refine zI (!okP f x54) (fun y90 => ?_) (fun y90 => ?_)
   ·refine Ja0 ?_
    refine zR [2] [] (Ak 1 tv) ?_
    refine Ja5 ?_
    exact zT [] (An (Ak 1 tv) (An (An (ci (o20 hpre x36 hx36 y37 x54 hx54 y55 y90)) (zr nilN)) (An (zr true) (An (zr true) (zr true)))))
   ·refine Ja3 ?_
    refine Ja0 ?_
    refine Jbi (zF 0) ?_
    refine zC ([(1,CallSpec.eq (s58 f) [true])]) [1,8] [] (Ak 1 (An (An (An (zr (AV.clo 59 [AV.rp (cFrm f)])) tv) (An (t58 (f)) (An hpre (Ak 1 (fun (i91:Env)=>tv))))) (Ak 1 tv))) ?_
    refine Ja0 ?_
    refine Ja0 ?_
    refine zR [8,94] [] (Ak 6 tv) ?_
    refine zI (!decide ((↑((srt f).length):Int)=(↑(f.pieces.length):Int))) (fun y92 => ?_) (fun y92 => ?_)
    ·refine Ja0 ?_
     refine zR [2] [] (Ak 1 tv) ?_
     refine Ja5 ?_
     exact zT [] (An (Ak 1 tv) (An (An (ci (o21 hpre x36 hx36 y37 x54 hx54 y55 y90 y92)) (zr nilN)) (An (zr true) (An (zr true) (zr true)))))
    ·refine Ja3 ?_
     refine Ja0 ?_
     refine Ja0 ?_
     refine zR [95,96,97] [] (Ak 3 tv) ?_
     refine Ja2 ?_
     refine zL (Hint.ann (h39c f) [(95,Ja6 (srt f)),(96,iv (↑((srt f).length):Int))] [] 30424) (zE hE [] [] [95,96] [] (An (An (An (zr (Ja6 (srt f))) (zr true)) (An (An (zr (iv (↑((srt f).length):Int))) (zr true)) (An (An (ci (o22 hpre x36 hx36 y37 x54 hx54 y55 y90 y92)) (zr nilN)) tv))) (Ak 1 (An (zr true) (zr true))))) (o23 hpre x36 hx36 y37 x54 hx54 y55 y90 y92) (fun (x93:Nat) hx93 => ?_)
     refine Ja0 ?_
     refine zR [95,96,97,98] [] (Ak 1 tv) ?_
     refine Ja0 ?_
     refine zI (decide ((x93:Int) < (↑((srt f).length):Int))) (fun y94 => ?_) (fun y94 => ?_)
     ·refine Ja3 ?_
      refine Ja0 ?_
      refine Ja2 ?_
      refine Ja0 ?_
      refine zR [95,96,97,9,10] [] (Ak 1 (An (An (o24 hpre x36 hx36 y37 x54 hx54 y55 y90 y92 x93 hx93 y94) (o25 hpre x36 hx36 y37 x54 hx54 y55 y90 y92 x93 hx93 y94)) (Ak 3 tv))) ?_
      refine Ja0 ?_
      refine zR [95,96,97,104] [] (Ak 3 tv) ?_
      refine zI (!decide ((x93:Int)=(srt f).getD x93 0)) (fun y95 => ?_) (fun y95 => ?_)
      ·refine Ja0 ?_
       refine zR [2] [] (Ak 1 tv) ?_
       refine Ja5 ?_
       exact zT [] (An (Ak 1 tv) (An (An (ci (o26 hpre x36 hx36 y37 x54 hx54 y55 y90 y92 x93 hx93 y94 y95)) (zr nilN)) (An (zr true) (An (zr true) (zr true)))))
      ·refine Ja3 ?_
       refine zR [95,96,97] [] (An (o27 hpre x36 hx36 y37 x54 hx54 y55 y90 y92 x93 hx93 y94 y95) (Ak 1 tv)) ?_
       exact zn (zE hE [] [] [95,96] [] (An (An (An (zr (Ja6 (srt f))) (zr true)) (An (An (zr (iv (↑((srt f).length):Int))) (zr true)) (An (An (ci (o28 hpre x36 hx36 y37 x54 hx54 y55 y90 y92 x93 hx93 y94 y95)) (zr nilN)) tv))) (Ak 1 (An (zr true) (zr true))))) (o29 hpre x36 hx36 y37 x54 hx54 y55 y90 y92 x93 hx93 y94 y95) (o30 hpre x36 hx36 y37 x54 hx54 y55 y90 y92 x93 hx93 y94 y95)
     ·refine Jaa ?_
      refine Ja0 ?_
      refine zR [2] [] (Ak 1 tv) ?_
      refine Ja5 ?_
      exact zT [] (An (Ak 1 tv) (An (An (ci (o31 hpre x36 hx36 y37 x54 hx54 y55 y90 y92 x93 hx93 y94)) (zr nilN)) (An (zr true) (An (zr true) (zr true)))))
theorem t39 (f:Frm):Ja4 Tryz.prog 39 (s39 f):=by
 apply w39
 all_goals (try delta q10 q11 q12 q13 q14 q15 q16 q17 q18 q19 q1a q1b)
 case o0=>intro hp; rw [Joc]; simp only [Jcu,Bool.cond_false_right]
 case o5=>intro hp x hx h; have:=hp.1; exact ⟨by omega,by omega⟩
 case o6=>intro hp x hx h; rw [Jod]; simp only [JbE,Bool.cond_false_right,Bool.and_assoc]
 case o10=>intro hp x hx h; simp only [decide_eq_false_iff_not] at h; rw [Joe,show x=f.strips.length by omega]
 case o15=>intro hp x hx h y hy h2; have:=hp.2.1; exact ⟨by omega,by omega⟩
 case o16=>intro hp x hx h y hy h2; rw [Jof]; simp only [JbF,Bool.cond_false_right,Bool.and_assoc]
 case o20=>intro hp x hx h y hy h2 h3; simp only [decide_eq_false_iff_not] at h2; simp only [Bool.not_eq_true'] at h3; exact (JbB (JpK (by rw [← show y=f.pieces.length by omega]; exact h3))).symm
 case o21=>intro hp x hx h y hy h2 h3 h4; simp only [Bool.not_eq_true',decide_eq_false_iff_not] at h4; exact (JbB (Je0 (Jmn (j:=0) (.inl (by omega))))).symm
 case o26 =>
  intro hp x hx h y hy h2 h3 h4 z hz h5 h6
  simp only [decide_eq_true_eq] at h5
  simp only [Bool.not_eq_true',decide_eq_false_iff_not] at h6
  exact (JbB (Je0 (Jmn (.inr ⟨by omega,fun e=>h6 e.symm⟩)))).symm
 case o27=>intro hp x hx h y hy h2 h3 h4 z hz h5 h6; have h7:=JjQ f 64 64 hp.2.2.1 hp.2.2.2; have h8:=Jmm f; exact ⟨by omega,by omega⟩
 case o29 =>
  intro hp x hx h y hy h2 h3 h4 z hz h5 h6
  simp only [decide_eq_true_eq] at h5
  simp only [Bool.not_eq_false',decide_eq_true_eq] at h6
  exact ⟨by omega,Jad hz.2 h6.symm⟩
 case o31 =>
  intro hp x hx h y hy h2 h3 h4 z hz h5
  simp only [decide_eq_false_iff_not] at h5 h2
  simp only [Bool.not_eq_false',decide_eq_true_eq] at h4 h3
  refine (Jdq ?_).symm
  rw [JeO,← show y=f.pieces.length by omega,h3,JkN (by omega) (fun j hj=>hz.2 j (by omega))]; rfl
 all_goals (try ((repeat intro _) <;> (try simp only [Bool.cond_true_left,Bool.cond_false_right,Bool.not_not,Bool.not_eq_true',Bool.not_eq_false',Bool.or_eq_true,Bool.or_eq_false_iff,Bool.and_eq_true,decide_eq_true_eq,decide_eq_false_iff_not,inI,big,Jba,Jai,Jbn] at *) <;> first | (exact rfl) | omega | (exact ⟨Nat.zero_le _,fun j hj=>absurd hj (Nat.not_lt_zero j)⟩) | (simp_all; done) | (simp_all; omega)))
abbrev q1c (f:Frm) (Pq:Prop):Prop:=Jba f->Pq
abbrev q1d (f:Frm) (Pq:Prop):Prop:=q1c f ((bif bif bif bif !Ja1 f.length 0 300 then true else !Ja1 f.slack 0 9 then true else decide (3 < (↑(f.strips.length):Int)) then true else decide (6 < (↑(f.pieces.length):Int)) then true else decide (3 < (↑(f.columns.length):Int)))=false->Pq)
abbrev q1e (f:Frm) (x39:Nat) (Pq:Prop):Prop:=(x39<=f.strips.length /\ ∀ (j:Nat),j < x39->JbE (stp f j)=true)->Pq
abbrev q1f (f:Frm) (x39:Nat) (Pq:Prop):Prop:=q1e f x39 (decide ((x39:Int) < (↑(f.strips.length):Int))=true->Pq)
abbrev q1g (f:Frm) (x39:Nat) (Pq:Prop):Prop:=q1f f x39 ((bif !Ja1 (stp f x39).thick 1 30 then true else !Ja1 (stp f x39).many 0 4)=false->Pq)
abbrev q1h (f:Frm) (x39:Nat) (Pq:Prop):Prop:=q1e f x39 (decide ((x39:Int) < (↑(f.strips.length):Int))=false->Pq)
abbrev q1i (f:Frm) (x61:Nat) (Pq:Prop):Prop:=(x61<=f.pieces.length /\ ∀ (j:Nat),j < x61->JbF (pc f j)=true/\cntL (allC f) (j:Int)=1)->Pq
abbrev q1j (f:Frm) (x61:Nat) (Pq:Prop):Prop:=q1i f x61 (decide ((x61:Int) < (↑(f.pieces.length):Int))=true->Pq)
abbrev q1k (f:Frm) (x61:Nat) (Pq:Prop):Prop:=q1j f x61 ((bif bif !Jay (Span.mk (pc f x61).lo (pc f x61).hi) 99 then true else !Ja1 (pc f x61).pence 0 99 then true else !decide (cntL (allC f) (x61:Int)=1))=false->Pq)
abbrev q1l (f:Frm) (x61:Nat) (Pq:Prop):Prop:=q1i f x61 (decide ((x61:Int) < (↑(f.pieces.length):Int))=false->Pq)
abbrev q1m (f:Frm) (x93:Nat) (Pq:Prop):Prop:=(x93<=f.columns.length /\ ∀ (j:Nat),j < x93->List.all (col f j) (isPc f)=true)->Pq
abbrev q1n (f:Frm) (x93:Nat) (Pq:Prop):Prop:=q1m f x93 (decide ((x93:Int) < (↑(f.columns.length):Int))=true->Pq)
abbrev q1o (f:Frm) (x93:Nat) (x95:Nat) (Pq:Prop):Prop:=(x95<=(col f x93).length /\ ∀ (j:Nat),j < x95->isPc f ((col f x93).getD j 0)=true)->Pq
abbrev q1p (f:Frm) (x93:Nat) (x95:Nat) (Pq:Prop):Prop:=q1o f x93 x95 (decide ((x95:Int) < (↑((col f x93).length):Int))=true->Pq)
abbrev q1q (f:Frm) (x93:Nat) (x95:Nat) (Pq:Prop):Prop:=q1o f x93 x95 (decide ((x95:Int) < (↑((col f x93).length):Int))=false->Pq)
theorem w5 (f:Frm)
 (o0:q1c f ((!Ja1 f.length 0 300)=false->(!!Ja1 f.length 0 300)=true))
 (o1:q1c f ((bif !Ja1 f.length 0 300 then true else !Ja1 f.slack 0 9)=false->(!bif !Ja1 f.length 0 300 then true else !Ja1 f.slack 0 9)=true))
 (o2:q1c f ((bif bif !Ja1 f.length 0 300 then true else !Ja1 f.slack 0 9 then true else decide (3 < (↑(f.strips.length):Int)))=false->(!bif bif !Ja1 f.length 0 300 then true else !Ja1 f.slack 0 9 then true else decide (3 < (↑(f.strips.length):Int)))=true))
 (o3:q1c f ((bif bif bif !Ja1 f.length 0 300 then true else !Ja1 f.slack 0 9 then true else decide (3 < (↑(f.strips.length):Int)) then true else decide (6 < (↑(f.pieces.length):Int)))=false->(!bif bif bif !Ja1 f.length 0 300 then true else !Ja1 f.slack 0 9 then true else decide (3 < (↑(f.strips.length):Int)) then true else decide (6 < (↑(f.pieces.length):Int)))=true))
 (o4:q1c f ((bif bif bif bif !Ja1 f.length 0 300 then true else !Ja1 f.slack 0 9 then true else decide (3 < (↑(f.strips.length):Int)) then true else decide (6 < (↑(f.pieces.length):Int)) then true else decide (3 < (↑(f.columns.length):Int)))=true->30=Jao f))
 (o5:q1d f (0=(↑0:Int)))
 (o6:q1d f (0<=f.strips.length /\ ∀ (j:Nat),j < 0->JbE (stp f j)=true))
 (o7:q1d f (∀ (x39:Nat),q1f f x39 (0<=(x39:Int))))
 (o8:q1d f (∀ (x39:Nat),q1f f x39 ((x39:Int) < (↑(f.strips.length):Int))))
 (o9:q1d f (∀ (x39:Nat),q1f f x39 ((!!Ja1 (stp f x39).thick 1 30)=true->0<=(x39:Int))))
 (o10:q1d f (∀ (x39:Nat),q1f f x39 ((!!Ja1 (stp f x39).thick 1 30)=true->(x39:Int) < (↑(f.strips.length):Int))))
 (o11:q1d f (∀ (x39:Nat),q1f f x39 ((!Ja1 (stp f x39).thick 1 30)=false->(!!Ja1 (stp f x39).thick 1 30)=true)))
 (o12:q1d f (∀ (x39:Nat),q1f f x39 ((bif !Ja1 (stp f x39).thick 1 30 then true else !Ja1 (stp f x39).many 0 4)=true->30=Jao f)))
 (o13:q1d f (∀ (x39:Nat),q1g f x39 (inI ((x39:Int) + 1))))
 (o14:q1d f (∀ (x39:Nat),q1g f x39 ((x39:Int) + 1=(↑(x39 + 1):Int))))
 (o15:q1d f (∀ (x39:Nat),q1g f x39 (x39 + 1<=f.strips.length /\ ∀ (j:Nat),j < x39 + 1->JbE (stp f j)=true)))
 (o16:q1d f (∀ (x39:Nat),q1g f x39 (f.strips.length - (x39 + 1) < f.strips.length - x39)))
 (o17:q1d f (∀ (x39:Nat),q1h f x39 (0=(↑0:Int))))
 (o18:q1d f (∀ (x39:Nat),q1h f x39 (0<=f.pieces.length /\ ∀ (j:Nat),j < 0->JbF (pc f j)=true/\cntL (allC f) (j:Int)=1)))
 (o19:q1d f (∀ (x39:Nat),q1h f x39 (∀ (x61:Nat),q1j f x61 (0<=(x61:Int)))))
 (o20:q1d f (∀ (x39:Nat),q1h f x39 (∀ (x61:Nat),q1j f x61 ((x61:Int) < (↑(f.pieces.length):Int)))))
 (o21:q1d f (∀ (x39:Nat),q1h f x39 (∀ (x61:Nat),q1j f x61 ((!!Jay (Span.mk (pc f x61).lo (pc f x61).hi) 99)=true->0<=(x61:Int)))))
 (o22:q1d f (∀ (x39:Nat),q1h f x39 (∀ (x61:Nat),q1j f x61 ((!!Jay (Span.mk (pc f x61).lo (pc f x61).hi) 99)=true->(x61:Int) < (↑(f.pieces.length):Int)))))
 (o23:q1d f (∀ (x39:Nat),q1h f x39 (∀ (x61:Nat),q1j f x61 ((!Jay (Span.mk (pc f x61).lo (pc f x61).hi) 99)=false->(!!Jay (Span.mk (pc f x61).lo (pc f x61).hi) 99)=true))))
 (o24:q1d f (∀ (x39:Nat),q1h f x39 (∀ (x61:Nat),q1j f x61 ((!bif !Jay (Span.mk (pc f x61).lo (pc f x61).hi) 99 then true else !Ja1 (pc f x61).pence 0 99)=true->f.columns.length<=3))))
 (o25:q1d f (∀ (x39:Nat),q1h f x39 (∀ (x61:Nat),q1j f x61 ((bif !Jay (Span.mk (pc f x61).lo (pc f x61).hi) 99 then true else !Ja1 (pc f x61).pence 0 99)=false->(!bif !Jay (Span.mk (pc f x61).lo (pc f x61).hi) 99 then true else !Ja1 (pc f x61).pence 0 99)=true))))
 (o26:q1d f (∀ (x39:Nat),q1h f x39 (∀ (x61:Nat),q1j f x61 ((bif bif !Jay (Span.mk (pc f x61).lo (pc f x61).hi) 99 then true else !Ja1 (pc f x61).pence 0 99 then true else !decide (cntL (allC f) (x61:Int)=1))=true->30=Jao f))))
 (o27:q1d f (∀ (x39:Nat),q1h f x39 (∀ (x61:Nat),q1k f x61 (inI ((x61:Int) + 1)))))
 (o28:q1d f (∀ (x39:Nat),q1h f x39 (∀ (x61:Nat),q1k f x61 ((x61:Int) + 1=(↑(x61 + 1):Int)))))
 (o29:q1d f (∀ (x39:Nat),q1h f x39 (∀ (x61:Nat),q1k f x61 (x61 + 1<=f.pieces.length /\ ∀ (j:Nat),j < x61 + 1->JbF (pc f j)=true/\cntL (allC f) (j:Int)=1))))
 (o30:q1d f (∀ (x39:Nat),q1h f x39 (∀ (x61:Nat),q1k f x61 (f.pieces.length - (x61 + 1) < f.pieces.length - x61))))
 (o31:q1d f (∀ (x39:Nat),q1h f x39 (∀ (x61:Nat),q1l f x61 (0=(↑0:Int)))))
 (o32:q1d f (∀ (x39:Nat),q1h f x39 (∀ (x61:Nat),q1l f x61 (0<=f.columns.length /\ ∀ (j:Nat),j < 0->List.all (col f j) (isPc f)=true))))
 (o33:q1d f (∀ (x39:Nat),q1h f x39 (∀ (x61:Nat),q1l f x61 (∀ (x93:Nat),q1n f x93 (0=(↑0:Int))))))
 (o34:q1d f (∀ (x39:Nat),q1h f x39 (∀ (x61:Nat),q1l f x61 (∀ (x93:Nat),q1n f x93 (0<=(col f x93).length /\ ∀ (j:Nat),j < 0->isPc f ((col f x93).getD j 0)=true)))))
 (o35:q1d f (∀ (x39:Nat),q1h f x39 (∀ (x61:Nat),q1l f x61 (∀ (x93:Nat),q1n f x93 (∀ (x95:Nat),q1o f x93 x95 (0<=(x93:Int)))))))
 (o36:q1d f (∀ (x39:Nat),q1h f x39 (∀ (x61:Nat),q1l f x61 (∀ (x93:Nat),q1n f x93 (∀ (x95:Nat),q1o f x93 x95 ((x93:Int) < (↑(f.columns.length):Int)))))))
 (o37:q1d f (∀ (x39:Nat),q1h f x39 (∀ (x61:Nat),q1l f x61 (∀ (x93:Nat),q1n f x93 (∀ (x95:Nat),q1p f x93 x95 (0<=(x93:Int)))))))
 (o38:q1d f (∀ (x39:Nat),q1h f x39 (∀ (x61:Nat),q1l f x61 (∀ (x93:Nat),q1n f x93 (∀ (x95:Nat),q1p f x93 x95 ((x93:Int) < (↑(f.columns.length):Int)))))))
 (o39:q1d f (∀ (x39:Nat),q1h f x39 (∀ (x61:Nat),q1l f x61 (∀ (x93:Nat),q1n f x93 (∀ (x95:Nat),q1p f x93 x95 (0<=(x95:Int)))))))
 (o40:q1d f (∀ (x39:Nat),q1h f x39 (∀ (x61:Nat),q1l f x61 (∀ (x93:Nat),q1n f x93 (∀ (x95:Nat),q1p f x93 x95 ((x95:Int) < (↑((col f x93).length):Int)))))))
 (o41:q1d f (∀ (x39:Nat),q1h f x39 (∀ (x61:Nat),q1l f x61 (∀ (x93:Nat),q1n f x93 (∀ (x95:Nat),q1p f x93 x95 ((!isPc f ((col f x93).getD x95 0))=true->30=Jao f))))))
 (o42:q1d f (∀ (x39:Nat),q1h f x39 (∀ (x61:Nat),q1l f x61 (∀ (x93:Nat),q1n f x93 (∀ (x95:Nat),q1p f x93 x95 ((!isPc f ((col f x93).getD x95 0))=false->inI ((x95:Int) + 1)))))))
 (o43:q1d f (∀ (x39:Nat),q1h f x39 (∀ (x61:Nat),q1l f x61 (∀ (x93:Nat),q1n f x93 (∀ (x95:Nat),q1p f x93 x95 ((!isPc f ((col f x93).getD x95 0))=false->(x95:Int) + 1=(↑(x95 + 1):Int)))))))
 (o44:q1d f (∀ (x39:Nat),q1h f x39 (∀ (x61:Nat),q1l f x61 (∀ (x93:Nat),q1n f x93 (∀ (x95:Nat),q1p f x93 x95 ((!isPc f ((col f x93).getD x95 0))=false->x95 + 1<=(col f x93).length /\ ∀ (j:Nat),j < x95 + 1->isPc f ((col f x93).getD j 0)=true))))))
 (o45:q1d f (∀ (x39:Nat),q1h f x39 (∀ (x61:Nat),q1l f x61 (∀ (x93:Nat),q1n f x93 (∀ (x95:Nat),q1p f x93 x95 ((!isPc f ((col f x93).getD x95 0))=false->(col f x93).length - (x95 + 1) < (col f x93).length - x95))))))
 (o46:q1d f (∀ (x39:Nat),q1h f x39 (∀ (x61:Nat),q1l f x61 (∀ (x93:Nat),q1n f x93 (∀ (x95:Nat),q1q f x93 x95 (inI ((x93:Int) + 1)))))))
 (o47:q1d f (∀ (x39:Nat),q1h f x39 (∀ (x61:Nat),q1l f x61 (∀ (x93:Nat),q1n f x93 (∀ (x95:Nat),q1q f x93 x95 ((x93:Int) + 1=(↑(x93 + 1):Int)))))))
 (o48:q1d f (∀ (x39:Nat),q1h f x39 (∀ (x61:Nat),q1l f x61 (∀ (x93:Nat),q1n f x93 (∀ (x95:Nat),q1q f x93 x95 (x93 + 1<=f.columns.length /\ ∀ (j:Nat),j < x93 + 1->List.all (col f j) (isPc f)=true))))))
 (o49:q1d f (∀ (x39:Nat),q1h f x39 (∀ (x61:Nat),q1l f x61 (∀ (x93:Nat),q1n f x93 (∀ (x95:Nat),q1q f x93 x95 (f.columns.length - (x93 + 1) < f.columns.length - x93))))))
 (o50:q1d f (∀ (x39:Nat),q1h f x39 (∀ (x61:Nat),q1l f x61 (∀ (x93:Nat),q1m f x93 (decide ((x93:Int) < (↑(f.columns.length):Int))=false->0=Jao f))))) :
  Ja4 Tryz.prog 5 (s5 f):=by
 refine Ja7 Tryz.func5 rfl Tryz.call5 Jaw _ rfl rfl rfl rfl (Nat.le_of_ble_eq_true (by kernel_rfl)) (fun _ _ _ _ h=>h) ?_
 intro hpre C hC _ hE
 obtain ⟨P,w0,E0,av,hA,ro,df⟩:=C
 obtain ⟨rfl,rfl,rfl⟩:=hC
 refine Ja0 ?_
 refine zR [1] [0] (Ak 2 tv) ?_
 refine Ja0 ?_
 refine Ja0 ?_
 refine zC ([(2,CallSpec.eq (s17 f.length 0 300) [true,true,true]),(7,CallSpec.eq (s17 f.slack 0 9) [true,true,true])]) [1,34] [0] (Ak 2 (An (An (An (zr (iv f.length)) (An (zr (iv 0)) (An (zr (iv 300)) tv))) (An (t17 f.length (0) (300)) (Ak 2 (fun (i0:Env)=>tv)))) (Ak 2 (An (fun (y1:(!!Ja1 f.length 0 300)=true)=>(An (Ak 1 tv) tv)) (An (fun (y2:(!!Ja1 f.length 0 300)=true)=>(An (An (fun (y3:(!!Ja1 f.length 0 300)=true)=>y2) tv) tv)) (An (fun (y4:(!!Ja1 f.length 0 300)=true)=>(An (Ak 1 (An (fun (y5:(!!Ja1 f.length 0 300)=true)=>y4) (Ak 2 tv))) (An (An (zr (iv f.slack)) (An (zr (iv 0)) (An (zr (iv 9)) tv))) (An (t17 f.slack (0) (9)) (Ak 2 (fun (i6:Env)=>tv)))))) (An (fun (y7:(!!Ja1 f.length 0 300)=true)=>(An (An (fun (y8:(!!Ja1 f.length 0 300)=true)=>y7) tv) tv)) (An (An (fun (y9:(!Ja1 f.length 0 300)=true)=>tv) (fun (y10:(!Ja1 f.length 0 300)=false)=>(o0 hpre y10))) (Ak 1 (An (fun (y11:(!bif !Ja1 f.length 0 300 then true else !Ja1 f.slack 0 9)=true)=>(An (Ak 1 tv) tv)) (An (fun (y12:(!bif !Ja1 f.length 0 300 then true else !Ja1 f.slack 0 9)=true)=>(An (An (fun (y13:(!bif !Ja1 f.length 0 300 then true else !Ja1 f.slack 0 9)=true)=>y12) tv) tv)) (An (fun (y14:(!bif !Ja1 f.length 0 300 then true else !Ja1 f.slack 0 9)=true)=>(An (An (fun (y15:(!bif !Ja1 f.length 0 300 then true else !Ja1 f.slack 0 9)=true)=>y14) tv) tv)) (An (fun (y16:(!bif !Ja1 f.length 0 300 then true else !Ja1 f.slack 0 9)=true)=>(An (An (fun (y17:(!bif !Ja1 f.length 0 300 then true else !Ja1 f.slack 0 9)=true)=>y16) (Ak 1 tv)) tv)) (An (An (fun (y18:(bif !Ja1 f.length 0 300 then true else !Ja1 f.slack 0 9)=true)=>tv) (fun (y19:(bif !Ja1 f.length 0 300 then true else !Ja1 f.slack 0 9)=false)=>(o1 hpre y19))) (Ak 1 (An (fun (y20:(!bif bif !Ja1 f.length 0 300 then true else !Ja1 f.slack 0 9 then true else decide (3 < (↑(f.strips.length):Int)))=true)=>(An (Ak 1 tv) tv)) (An (fun (y21:(!bif bif !Ja1 f.length 0 300 then true else !Ja1 f.slack 0 9 then true else decide (3 < (↑(f.strips.length):Int)))=true)=>(An (An (fun (y22:(!bif bif !Ja1 f.length 0 300 then true else !Ja1 f.slack 0 9 then true else decide (3 < (↑(f.strips.length):Int)))=true)=>y21) tv) tv)) (An (fun (y23:(!bif bif !Ja1 f.length 0 300 then true else !Ja1 f.slack 0 9 then true else decide (3 < (↑(f.strips.length):Int)))=true)=>(An (An (fun (y24:(!bif bif !Ja1 f.length 0 300 then true else !Ja1 f.slack 0 9 then true else decide (3 < (↑(f.strips.length):Int)))=true)=>y23) tv) tv)) (An (fun (y25:(!bif bif !Ja1 f.length 0 300 then true else !Ja1 f.slack 0 9 then true else decide (3 < (↑(f.strips.length):Int)))=true)=>(An (An (fun (y26:(!bif bif !Ja1 f.length 0 300 then true else !Ja1 f.slack 0 9 then true else decide (3 < (↑(f.strips.length):Int)))=true)=>y25) (Ak 1 tv)) tv)) (An (An (fun (y27:(bif bif !Ja1 f.length 0 300 then true else !Ja1 f.slack 0 9 then true else decide (3 < (↑(f.strips.length):Int)))=true)=>tv) (fun (y28:(bif bif !Ja1 f.length 0 300 then true else !Ja1 f.slack 0 9 then true else decide (3 < (↑(f.strips.length):Int)))=false)=>(o2 hpre y28))) (Ak 1 (An (fun (y29:(!bif bif bif !Ja1 f.length 0 300 then true else !Ja1 f.slack 0 9 then true else decide (3 < (↑(f.strips.length):Int)) then true else decide (6 < (↑(f.pieces.length):Int)))=true)=>(An (Ak 1 tv) tv)) (An (fun (y30:(!bif bif bif !Ja1 f.length 0 300 then true else !Ja1 f.slack 0 9 then true else decide (3 < (↑(f.strips.length):Int)) then true else decide (6 < (↑(f.pieces.length):Int)))=true)=>(An (An (fun (y31:(!bif bif bif !Ja1 f.length 0 300 then true else !Ja1 f.slack 0 9 then true else decide (3 < (↑(f.strips.length):Int)) then true else decide (6 < (↑(f.pieces.length):Int)))=true)=>y30) tv) tv)) (An (fun (y32:(!bif bif bif !Ja1 f.length 0 300 then true else !Ja1 f.slack 0 9 then true else decide (3 < (↑(f.strips.length):Int)) then true else decide (6 < (↑(f.pieces.length):Int)))=true)=>(An (An (fun (y33:(!bif bif bif !Ja1 f.length 0 300 then true else !Ja1 f.slack 0 9 then true else decide (3 < (↑(f.strips.length):Int)) then true else decide (6 < (↑(f.pieces.length):Int)))=true)=>y32) tv) tv)) (An (fun (y34:(!bif bif bif !Ja1 f.length 0 300 then true else !Ja1 f.slack 0 9 then true else decide (3 < (↑(f.strips.length):Int)) then true else decide (6 < (↑(f.pieces.length):Int)))=true)=>(An (An (fun (y35:(!bif bif bif !Ja1 f.length 0 300 then true else !Ja1 f.slack 0 9 then true else decide (3 < (↑(f.strips.length):Int)) then true else decide (6 < (↑(f.pieces.length):Int)))=true)=>y34) (Ak 1 tv)) tv)) (An (An (fun (y36:(bif bif bif !Ja1 f.length 0 300 then true else !Ja1 f.slack 0 9 then true else decide (3 < (↑(f.strips.length):Int)) then true else decide (6 < (↑(f.pieces.length):Int)))=true)=>tv) (fun (y37:(bif bif bif !Ja1 f.length 0 300 then true else !Ja1 f.slack 0 9 then true else decide (3 < (↑(f.strips.length):Int)) then true else decide (6 < (↑(f.pieces.length):Int)))=false)=>(o3 hpre y37))) tv)))))))))))))))))))))))))) ?_
 refine zI (bif bif bif bif !Ja1 f.length 0 300 then true else !Ja1 f.slack 0 9 then true else decide (3 < (↑(f.strips.length):Int)) then true else decide (6 < (↑(f.pieces.length):Int)) then true else decide (3 < (↑(f.columns.length):Int))) (fun y38 => ?_) (fun y38 => ?_)
 ·refine Ja0 ?_
  refine zR [2] [] (Ak 1 tv) ?_
  refine Ja5 ?_
  exact zT [] (An (Ak 1 tv) (An (An (ci (o4 hpre y38)) (zr nilN)) (An (zr true) (An (zr true) (zr true)))))
 ·refine Ja3 ?_
  refine Ja0 ?_
  refine Ja0 ?_
  refine zR [1,3] [0] (Ak 1 tv) ?_
  refine Ja2 ?_
  refine zL (Hint.ann (h5a f) [(1,AV.ptr 0 [])] [(0,OB.cells 26 (cFrm f))] 10248) (zE hE [] [(0,.same 0)] [] [0] (An (An (An (zr (some (Src.same 0))) (zr nilP)) (An (An (ci (o5 hpre y38)) (zr nilN)) tv)) (An (An (An (zr (OB.cells 26 (cFrm f))) (zr true)) tv) (An (zr true) (zr true))))) (o6 hpre y38) (fun (x39:Nat) hx39 => ?_)
  refine Ja0 ?_
  refine Ja0 ?_
  refine zR [1,3,39] [0] (Ak 5 tv) ?_
  refine zI (decide ((x39:Int) < (↑(f.strips.length):Int))) (fun y40 => ?_) (fun y40 => ?_)
  ·refine Ja3 ?_
   refine Ja0 ?_
   refine Ja2 ?_
   refine Ja0 ?_
   refine zC ([(6,CallSpec.eq (s17 (stp f x39).thick 1 30) [true,true,true]),(15,CallSpec.eq (s17 (stp f x39).many 0 4) [true,true,true])]) [1,3,59] [0] (Ak 3 (An (An (o7 hpre y38 x39 hx39 y40) (o8 hpre y38 x39 hx39 y40)) (Ak 2 (An (An (An (zr (iv (stp f x39).thick)) (An (zr (iv 1)) (An (zr (iv 30)) tv))) (An (t17 (stp f x39).thick (1) (30)) (Ak 2 (fun (i41:Env)=>tv)))) (Ak 2 (An (fun (y42:(!!Ja1 (stp f x39).thick 1 30)=true)=>(An (Ak 1 tv) tv)) (An (fun (y43:(!!Ja1 (stp f x39).thick 1 30)=true)=>(An (An (fun (y44:(!!Ja1 (stp f x39).thick 1 30)=true)=>y43) tv) tv)) (An (fun (y45:(!!Ja1 (stp f x39).thick 1 30)=true)=>(An (Ak 1 tv) tv)) (An (fun (y46:(!!Ja1 (stp f x39).thick 1 30)=true)=>(An (An (fun (y47:(!!Ja1 (stp f x39).thick 1 30)=true)=>y46) (An (fun (y48:(!!Ja1 (stp f x39).thick 1 30)=true)=>y46) tv)) (An (o9 hpre y38 x39 hx39 y40 y46) (o10 hpre y38 x39 hx39 y40 y46)))) (An (fun (y49:(!!Ja1 (stp f x39).thick 1 30)=true)=>(An (An (fun (y50:(!!Ja1 (stp f x39).thick 1 30)=true)=>y49) tv) tv)) (An (fun (y51:(!!Ja1 (stp f x39).thick 1 30)=true)=>(An (An (fun (y52:(!!Ja1 (stp f x39).thick 1 30)=true)=>y51) tv) tv)) (An (fun (y53:(!!Ja1 (stp f x39).thick 1 30)=true)=>(An (Ak 1 (An (fun (y54:(!!Ja1 (stp f x39).thick 1 30)=true)=>y53) (Ak 2 tv))) (An (An (zr (iv (stp f x39).many)) (An (zr (iv 0)) (An (zr (iv 4)) tv))) (An (t17 (stp f x39).many (0) (4)) (Ak 2 (fun (i55:Env)=>tv)))))) (An (fun (y56:(!!Ja1 (stp f x39).thick 1 30)=true)=>(An (An (fun (y57:(!!Ja1 (stp f x39).thick 1 30)=true)=>y56) tv) tv)) (An (An (fun (y58:(!Ja1 (stp f x39).thick 1 30)=true)=>tv) (fun (y59:(!Ja1 (stp f x39).thick 1 30)=false)=>(o11 hpre y38 x39 hx39 y40 y59))) tv)))))))))))))) ?_
   refine zI (bif !Ja1 (stp f x39).thick 1 30 then true else !Ja1 (stp f x39).many 0 4) (fun y60 => ?_) (fun y60 => ?_)
   ·refine Ja0 ?_
    refine zR [2] [] (Ak 1 tv) ?_
    refine Ja5 ?_
    exact zT [] (An (Ak 1 tv) (An (An (ci (o12 hpre y38 x39 hx39 y40 y60)) (zr nilN)) (An (zr true) (An (zr true) (zr true)))))
   ·refine Ja3 ?_
    refine zR [1,3] [0] (Ak 1 (An (o13 hpre y38 x39 hx39 y40 y60) (Ak 1 tv))) ?_
    exact zn (zE hE [] [(0,.same 0)] [] [0] (An (An (An (zr (some (Src.same 0))) (zr nilP)) (An (An (ci (o14 hpre y38 x39 hx39 y40 y60)) (zr nilN)) tv)) (An (An (An (zr (OB.cells 26 (cFrm f))) (zr true)) tv) (An (zr true) (zr true))))) (o15 hpre y38 x39 hx39 y40 y60) (o16 hpre y38 x39 hx39 y40 y60)
  ·refine Jaa ?_
   refine Ja0 ?_
   refine Ja0 ?_
   refine zR [1,4] [0] (Ak 1 tv) ?_
   refine Ja2 ?_
   refine zL (Hint.ann (h5b f) [(1,AV.ptr 0 [])] [(0,OB.cells 26 (cFrm f))] 20296) (zE hE [] [(0,.same 0)] [] [0] (An (An (An (zr (some (Src.same 0))) (zr nilP)) (An (An (ci (o17 hpre y38 x39 hx39 y40)) (zr nilN)) tv)) (An (An (An (zr (OB.cells 26 (cFrm f))) (zr true)) tv) (An (zr true) (zr true))))) (o18 hpre y38 x39 hx39 y40) (fun (x61:Nat) hx61 => ?_)
   refine Ja0 ?_
   refine Ja0 ?_
   refine zR [1,4,64] [0] (Ak 5 tv) ?_
   refine zI (decide ((x61:Int) < (↑(f.pieces.length):Int))) (fun y62 => ?_) (fun y62 => ?_)
   ·refine Ja3 ?_
    refine Ja0 ?_
    refine Ja2 ?_
    refine Ja0 ?_
    refine zC ([(6,CallSpec.eq (c5 f x61) [false,true]),(15,CallSpec.eq (s17 (pc f x61).pence 0 99) [true,true,true]),(21,CallSpec.eq (s19 f (x61:Int)) [true,true])]) [1,4,90] [0] (Ak 3 (An (An (o19 hpre y38 x39 hx39 y40 x61 hx61 y62) (o20 hpre y38 x39 hx39 y40 x61 hx61 y62)) (Ak 2 (An (An (An (An (zr (iv (pc f x61).lo)) (An (zr (iv (pc f x61).hi)) tv)) (An (zr (iv 99)) tv)) (An (t18 (Span.mk (pc f x61).lo (pc f x61).hi) (99)) (Ak 2 (fun (i63:Env)=>tv)))) (Ak 2 (An (fun (y64:(!!Jay (Span.mk (pc f x61).lo (pc f x61).hi) 99)=true)=>(An (Ak 1 tv) tv)) (An (fun (y65:(!!Jay (Span.mk (pc f x61).lo (pc f x61).hi) 99)=true)=>(An (An (fun (y66:(!!Jay (Span.mk (pc f x61).lo (pc f x61).hi) 99)=true)=>y65) tv) tv)) (An (fun (y67:(!!Jay (Span.mk (pc f x61).lo (pc f x61).hi) 99)=true)=>(An (Ak 1 tv) tv)) (An (fun (y68:(!!Jay (Span.mk (pc f x61).lo (pc f x61).hi) 99)=true)=>(An (An (fun (y69:(!!Jay (Span.mk (pc f x61).lo (pc f x61).hi) 99)=true)=>y68) (An (fun (y70:(!!Jay (Span.mk (pc f x61).lo (pc f x61).hi) 99)=true)=>y68) tv)) (An (o21 hpre y38 x39 hx39 y40 x61 hx61 y62 y68) (o22 hpre y38 x39 hx39 y40 x61 hx61 y62 y68)))) (An (fun (y71:(!!Jay (Span.mk (pc f x61).lo (pc f x61).hi) 99)=true)=>(An (An (fun (y72:(!!Jay (Span.mk (pc f x61).lo (pc f x61).hi) 99)=true)=>y71) tv) tv)) (An (fun (y73:(!!Jay (Span.mk (pc f x61).lo (pc f x61).hi) 99)=true)=>(An (An (fun (y74:(!!Jay (Span.mk (pc f x61).lo (pc f x61).hi) 99)=true)=>y73) tv) tv)) (An (fun (y75:(!!Jay (Span.mk (pc f x61).lo (pc f x61).hi) 99)=true)=>(An (Ak 1 (An (fun (y76:(!!Jay (Span.mk (pc f x61).lo (pc f x61).hi) 99)=true)=>y75) (Ak 2 tv))) (An (An (zr (iv (pc f x61).pence)) (An (zr (iv 0)) (An (zr (iv 99)) tv))) (An (t17 (pc f x61).pence (0) (99)) (Ak 2 (fun (i77:Env)=>tv)))))) (An (fun (y78:(!!Jay (Span.mk (pc f x61).lo (pc f x61).hi) 99)=true)=>(An (An (fun (y79:(!!Jay (Span.mk (pc f x61).lo (pc f x61).hi) 99)=true)=>y78) tv) tv)) (An (An (fun (y80:(!Jay (Span.mk (pc f x61).lo (pc f x61).hi) 99)=true)=>tv) (fun (y81:(!Jay (Span.mk (pc f x61).lo (pc f x61).hi) 99)=false)=>(o23 hpre y38 x39 hx39 y40 x61 hx61 y62 y81))) (Ak 1 (An (fun (y82:(!bif !Jay (Span.mk (pc f x61).lo (pc f x61).hi) 99 then true else !Ja1 (pc f x61).pence 0 99)=true)=>(An (Ak 1 tv) tv)) (An (fun (y83:(!bif !Jay (Span.mk (pc f x61).lo (pc f x61).hi) 99 then true else !Ja1 (pc f x61).pence 0 99)=true)=>(An (Ak 1 tv) tv)) (An (fun (y84:(!bif !Jay (Span.mk (pc f x61).lo (pc f x61).hi) 99 then true else !Ja1 (pc f x61).pence 0 99)=true)=>(An (Ak 1 (An (fun (y85:(!bif !Jay (Span.mk (pc f x61).lo (pc f x61).hi) 99 then true else !Ja1 (pc f x61).pence 0 99)=true)=>y84) (An (fun (y86:(!bif !Jay (Span.mk (pc f x61).lo (pc f x61).hi) 99 then true else !Ja1 (pc f x61).pence 0 99)=true)=>y84) tv))) (An (An (zr (AV.agg (cFrm f))) (An (zr (iv (x61:Int))) tv)) (An (t19 (f) ((x61:Int))) (An (An hpre (o24 hpre y38 x39 hx39 y40 x61 hx61 y62 y84)) (Ak 1 (fun (i87:Env)=>tv))))))) (An (fun (y88:(!bif !Jay (Span.mk (pc f x61).lo (pc f x61).hi) 99 then true else !Ja1 (pc f x61).pence 0 99)=true)=>(An (An (fun (y89:(!bif !Jay (Span.mk (pc f x61).lo (pc f x61).hi) 99 then true else !Ja1 (pc f x61).pence 0 99)=true)=>y88) (Ak 1 tv)) tv)) (An (An (fun (y90:(bif !Jay (Span.mk (pc f x61).lo (pc f x61).hi) 99 then true else !Ja1 (pc f x61).pence 0 99)=true)=>tv) (fun (y91:(bif !Jay (Span.mk (pc f x61).lo (pc f x61).hi) 99 then true else !Ja1 (pc f x61).pence 0 99)=false)=>(o25 hpre y38 x39 hx39 y40 x61 hx61 y62 y91))) tv)))))))))))))))))))) ?_
    refine zI (bif bif !Jay (Span.mk (pc f x61).lo (pc f x61).hi) 99 then true else !Ja1 (pc f x61).pence 0 99 then true else !decide (cntL (allC f) (x61:Int)=1)) (fun y92 => ?_) (fun y92 => ?_)
    ·refine Ja0 ?_
     refine zR [2] [] (Ak 1 tv) ?_
     refine Ja5 ?_
     exact zT [] (An (Ak 1 tv) (An (An (ci (o26 hpre y38 x39 hx39 y40 x61 hx61 y62 y92)) (zr nilN)) (An (zr true) (An (zr true) (zr true)))))
    ·refine Ja3 ?_
     refine zR [1,4] [0] (Ak 1 (An (o27 hpre y38 x39 hx39 y40 x61 hx61 y62 y92) (Ak 1 tv))) ?_
     exact zn (zE hE [] [(0,.same 0)] [] [0] (An (An (An (zr (some (Src.same 0))) (zr nilP)) (An (An (ci (o28 hpre y38 x39 hx39 y40 x61 hx61 y62 y92)) (zr nilN)) tv)) (An (An (An (zr (OB.cells 26 (cFrm f))) (zr true)) tv) (An (zr true) (zr true))))) (o29 hpre y38 x39 hx39 y40 x61 hx61 y62 y92) (o30 hpre y38 x39 hx39 y40 x61 hx61 y62 y92)
   ·refine Jaa ?_
    refine Ja0 ?_
    refine Ja0 ?_
    refine zR [1,5] [0] (Ak 1 tv) ?_
    refine Ja2 ?_
    refine zL (Hint.ann (h5c f) [(1,AV.ptr 0 [])] [(0,OB.cells 26 (cFrm f))] 30344) (zE hE [] [(0,.same 0)] [] [0] (An (An (An (zr (some (Src.same 0))) (zr nilP)) (An (An (ci (o31 hpre y38 x39 hx39 y40 x61 hx61 y62)) (zr nilN)) tv)) (An (An (An (zr (OB.cells 26 (cFrm f))) (zr true)) tv) (An (zr true) (zr true))))) (o32 hpre y38 x39 hx39 y40 x61 hx61 y62) (fun (x93:Nat) hx93 => ?_)
    refine Ja0 ?_
    refine Ja0 ?_
    refine zR [1,5,95] [0] (Ak 5 tv) ?_
    refine zI (decide ((x93:Int) < (↑(f.columns.length):Int))) (fun y94 => ?_) (fun y94 => ?_)
    ·refine Ja3 ?_
     refine Ja0 ?_
     refine Ja2 ?_
     refine Ja0 ?_
     refine zR [1,5,6] [0] (Ak 1 tv) ?_
     refine Ja2 ?_
     refine zL (Hint.ann (h5d f x93) [(1,AV.ptr 0 []),(5,iv (x93:Int))] [(0,OB.cells 26 (cFrm f))] 40392) (zE hE [] [(0,.same 0)] [5] [0] (An (An (An (zr (some (Src.same 0))) (zr nilP)) (An (An (zr (iv (x93:Int))) (zr true)) (An (An (ci (o33 hpre y38 x39 hx39 y40 x61 hx61 y62 x93 hx93 y94)) (zr nilN)) tv))) (An (An (An (zr (OB.cells 26 (cFrm f))) (zr true)) tv) (An (zr true) (zr true))))) (o34 hpre y38 x39 hx39 y40 x61 hx61 y62 x93 hx93 y94) (fun (x95:Nat) hx95 => ?_)
     refine Ja0 ?_
     refine Ja0 ?_
     refine zR [1,5,6,105] [0] (Ak 4 (An (An (o35 hpre y38 x39 hx39 y40 x61 hx61 y62 x93 hx93 y94 x95 hx95) (o36 hpre y38 x39 hx39 y40 x61 hx61 y62 x93 hx93 y94 x95 hx95)) (Ak 3 tv))) ?_
     refine zI (decide ((x95:Int) < (↑((col f x93).length):Int))) (fun y96 => ?_) (fun y96 => ?_)
     ·refine Ja3 ?_
      refine Ja0 ?_
      refine Ja2 ?_
      refine Ja0 ?_
      refine zC ([(9,CallSpec.eq (s20 f ((col f x93).getD x95 0)) [true,true])]) [1,5,6,118] [0] (Ak 4 (An (An (o37 hpre y38 x39 hx39 y40 x61 hx61 y62 x93 hx93 y94 x95 hx95 y96) (o38 hpre y38 x39 hx39 y40 x61 hx61 y62 x93 hx93 y94 x95 hx95 y96)) (Ak 2 (An (An (o39 hpre y38 x39 hx39 y40 x61 hx61 y62 x93 hx93 y94 x95 hx95 y96) (o40 hpre y38 x39 hx39 y40 x61 hx61 y62 x93 hx93 y94 x95 hx95 y96)) (Ak 1 (An (An (An (zr (AV.agg (cFrm f))) (An (zr (iv ((col f x93).getD x95 0))) tv)) (An (t20 (f) ((col f x93).getD x95 0)) (An hpre (Ak 1 (fun (i97:Env)=>tv))))) (Ak 1 tv))))))) ?_
      refine zI (!isPc f ((col f x93).getD x95 0)) (fun y98 => ?_) (fun y98 => ?_)
      ·refine Ja0 ?_
       refine zR [2] [] (Ak 1 tv) ?_
       refine Ja5 ?_
       exact zT [] (An (Ak 1 tv) (An (An (ci (o41 hpre y38 x39 hx39 y40 x61 hx61 y62 x93 hx93 y94 x95 hx95 y96 y98)) (zr nilN)) (An (zr true) (An (zr true) (zr true)))))
      ·refine Ja3 ?_
       refine zR [1,5,6] [0] (Ak 1 (An (o42 hpre y38 x39 hx39 y40 x61 hx61 y62 x93 hx93 y94 x95 hx95 y96 y98) (Ak 1 tv))) ?_
       exact zn (zE hE [] [(0,.same 0)] [5] [0] (An (An (An (zr (some (Src.same 0))) (zr nilP)) (An (An (zr (iv (x93:Int))) (zr true)) (An (An (ci (o43 hpre y38 x39 hx39 y40 x61 hx61 y62 x93 hx93 y94 x95 hx95 y96 y98)) (zr nilN)) tv))) (An (An (An (zr (OB.cells 26 (cFrm f))) (zr true)) tv) (An (zr true) (zr true))))) (o44 hpre y38 x39 hx39 y40 x61 hx61 y62 x93 hx93 y94 x95 hx95 y96 y98) (o45 hpre y38 x39 hx39 y40 x61 hx61 y62 x93 hx93 y94 x95 hx95 y96 y98)
     ·refine Jaa ?_
      refine zR [1,5] [0] (Ak 1 (An (o46 hpre y38 x39 hx39 y40 x61 hx61 y62 x93 hx93 y94 x95 hx95 y96) (Ak 1 tv))) ?_
      exact zn (zE hE [] [(0,.same 0)] [] [0] (An (An (An (zr (some (Src.same 0))) (zr nilP)) (An (An (ci (o47 hpre y38 x39 hx39 y40 x61 hx61 y62 x93 hx93 y94 x95 hx95 y96)) (zr nilN)) tv)) (An (An (An (zr (OB.cells 26 (cFrm f))) (zr true)) tv) (An (zr true) (zr true))))) (o48 hpre y38 x39 hx39 y40 x61 hx61 y62 x93 hx93 y94 x95 hx95 y96) (o49 hpre y38 x39 hx39 y40 x61 hx61 y62 x93 hx93 y94 x95 hx95 y96)
    ·refine Jaa ?_
     refine Ja0 ?_
     refine zR [2] [] (Ak 1 tv) ?_
     refine Ja5 ?_
     exact zT [] (An (Ak 1 tv) (An (An (ci (o50 hpre y38 x39 hx39 y40 x61 hx61 y62 x93 hx93 y94)) (zr nilN)) (An (zr true) (An (zr true) (zr true)))))
theorem t5 (f:Frm):Ja4 Tryz.prog 5 (s5 f):=by
 apply w5
 all_goals (try delta q1c q1d q1e q1f q1g q1h q1i q1j q1k q1l q1m q1n q1o q1p q1q)
 case o4 =>
  intro hp h
  refine (JbB (JkO ?_)).symm
  cases e:Jcu f with
  | false=>rfl
  | true =>
   simp only [Jcu,Bool.and_eq_true,decide_eq_true_eq] at e
   obtain ⟨⟨⟨⟨e1,e2⟩,e3⟩,e4⟩,e5⟩:=e
   rw [e1,e2] at h
   simp only [Bool.not_true,Bool.cond_true_left,Bool.false_or,Bool.or_eq_true,decide_eq_true_eq] at h
   omega
 case o12 =>
  intro hp h x hx h2 h3
  simp only [decide_eq_true_eq] at h2
  refine (JbB (Jji (x:=x) (by omega) ?_)).symm
  rw [nbor2,Bool.not_eq_true'] at h3
  exact h3
 case o15 =>
  intro hp h x hx h2 h3
  simp only [decide_eq_true_eq] at h2
  rw [nbor2] at h3
  exact ⟨by omega,Jad hx.2 (by simpa [JbE] using h3)⟩
 case o26 =>
  intro hp h x hx h2 y hy h3 h4
  simp only [decide_eq_true_eq] at h3
  rw [nbor3] at h4
  by_cases h5:cntL (allC f) (y:Int)=1
  ·refine (JbB (Jjj (x:=y) (by omega) ?_)).symm
   rw [decide_eq_true h5,Bool.and_true,Bool.not_eq_true'] at h4
   exact h4
  ·exact (JbB (Jmo (x:=y) (by omega) h5)).symm
 case o29 =>
  intro hp h x hx h2 y hy h3 h4
  simp only [decide_eq_true_eq] at h3
  rw [nbor3] at h4
  simp only [Bool.not_eq_false',Bool.and_eq_true,decide_eq_true_eq] at h4
  refine ⟨by omega,Jad hy.2 ⟨?_,h4.2⟩⟩
  have h5:=h4.1
  simp only [Jay,Bool.and_eq_true] at h5
  simp [JbF,h5.1.1,h5.1.2,h5.2]
 case o41 =>
  intro hp h x hx h2 y hy h3 c hc h4 k hk h5 h6
  simp only [decide_eq_true_eq] at h4 h5
  simp only [Bool.not_eq_true'] at h6
  exact (JbB (Jog (c:=c) (by omega) (Jh5 _ 0 _ (by omega) h6))).symm
 case o42=>intro hp h x hx h2 y hy h3 c hc h4 k hk h5 h6; have:=hp.2.2.2 c; simp only [big] at *; exact ⟨by omega,by omega⟩
 case o44 =>
  intro hp h x hx h2 y hy h3 c hc h4 k hk h5 h6
  simp only [decide_eq_true_eq] at h5
  simp only [Bool.not_eq_false'] at h6
  exact ⟨by omega,Jad hk.2 h6⟩
 case o48 =>
  intro hp h x hx h2 y hy h3 c hc h4 k hk h5
  simp only [decide_eq_true_eq] at h4
  simp only [decide_eq_false_iff_not] at h5
  exact ⟨by omega,Jad hc.2 (JdD _ 0 _ (fun j hj=>hk.2 j (by omega)))⟩
 case o50 =>
  intro hp h x hx h2 y hy h3 c hc h4
  simp only [decide_eq_false_iff_not] at h2 h3 h4
  refine (Jdq (Joh ?_ (fun j hj=>hx.2 j (by omega)) (fun j hj=>hy.2 j (by omega)) (fun j hj=>hc.2 j (by omega)))).symm
  simp only [Bool.cond_true_left,Bool.or_eq_false_iff,Bool.not_eq_false',decide_eq_false_iff_not] at h
  simp only [Jcu,Bool.and_eq_true,decide_eq_true_eq]
  exact ⟨⟨⟨⟨h.1.1.1.1,h.1.1.1.2⟩,by omega⟩,by omega⟩,by omega⟩
 all_goals (try ((repeat intro _) <;> (try simp only [Bool.cond_true_left,Bool.cond_false_right,Bool.not_not,Bool.not_eq_true',Bool.not_eq_false',Bool.or_eq_true,Bool.or_eq_false_iff,Bool.and_eq_true,decide_eq_true_eq,decide_eq_false_iff_not,inI,big,Jba,Jai,Jbn] at *) <;> first | (exact rfl) | omega | (exact ⟨Nat.zero_le _,fun j hj=>absurd hj (Nat.not_lt_zero j)⟩) | (simp_all; done) | (simp_all; omega)))
abbrev q1r (f:Frm) (Pq:Prop):Prop:=Jai f->Pq
abbrev q1s (f:Frm) (Pq:Prop):Prop:=q1r f ((!decide (Jao f=0))=true->Pq)
abbrev q1t (f:Frm) (Pq:Prop):Prop:=q1r f ((!decide (Jao f=0))=false->Pq)
theorem w26 (f:Frm) (is:Bool)
 (o0:q1s f (0=(Jaz f is).length))
 (o1:q1s f (0=(Jaz f is).slack))
 (o2:q1s f ((Jaz f is).strips.length=0))
 (o3:q1s f ((Jaz f is).pieces.length=0))
 (o4:q1s f ((Jaz f is).columns.length=0))
 (o5:q1s f (Jao f=Jcl f is))
 (o6:q1t f ((!is)=true->0=(Jaz f is).length))
 (o7:q1t f ((!is)=true->0=(Jaz f is).slack))
 (o8:q1t f ((!is)=true->(Jaz f is).strips.length=0))
 (o9:q1t f ((!is)=true->(Jaz f is).pieces.length=0))
 (o10:q1t f ((!is)=true->(Jaz f is).columns.length=0))
 (o11:q1t f ((!is)=true->1=Jcl f is))
 (o12:q1t f ((!is)=false->f.length=(Jaz f is).length))
 (o13:q1t f ((!is)=false->f.slack=(Jaz f is).slack))
 (o14:q1t f ((!is)=false->f.strips.length=(Jaz f is).strips.length))
 (o15:q1t f ((!is)=false -> ∀ (i3:Nat),i3 < (Jaz f is).strips.length->JaK (stp f i3)=JaK (stp (Jaz f is) i3)))
 (o16:q1t f ((!is)=false->f.pieces.length=(Jaz f is).pieces.length))
 (o17:q1t f ((!is)=false -> ∀ (i5:Nat),i5 < (Jaz f is).pieces.length->JaD (pc f i5)=JaD (pc (Jaz f is) i5)))
 (o18:q1t f ((!is)=false->f.columns.length=(Jaz f is).columns.length))
 (o19:q1t f ((!is)=false -> ∀ (i7:Nat),i7 < (Jaz f is).columns.length -> [Ja6 (col f i7)] = [Ja6 (col (Jaz f is) i7)]))
 (o20:q1t f ((!is)=false->0=Jcl f is)) :
  Ja4 Tryz.prog 26 (s26 f is):=by
 refine Ja7 Tryz.func26 rfl Tryz.call26 Jaw _ rfl rfl rfl rfl (Nat.le_of_ble_eq_true (by kernel_rfl)) (fun _ _ _ _ h=>h) ?_
 intro hpre C hC _ hE
 obtain ⟨P,w0,E0,av,hA,ro,df⟩:=C
 obtain ⟨rfl,rfl,rfl⟩:=hC
 refine Ja0 ?_
 refine zR [1,2,4] [0,8] (Ak 3 tv) ?_
 refine Ja0 ?_
 refine Ja0 ?_
 refine zC ([(1,CallSpec.eq (s39 f) [true])]) [1,2,4,6] [0,8] (Ak 1 (An (An (An (zr (AV.agg (cFrm f))) tv) (An (t39 (f)) (An hpre (Ak 1 (fun (i0:Env)=>tv))))) (Ak 1 tv))) ?_
 refine Ja0 ?_
 refine zR [1,2,4,6,10] [0,8] (Ak 2 tv) ?_
 refine zI (!decide (Jao f=0)) (fun y1 => ?_) (fun y1 => ?_)
 ·refine Ja0 ?_
  refine zR [4,5] [8] (Ak 4 tv) ?_
  refine Ja5 ?_
  exact zT [] (An (Ak 2 tv) (An (An (An (An (ci (o0 hpre y1)) (zr nilN)) (An (An (ci (o1 hpre y1)) (zr nilN)) (An (o2 hpre y1) (An (o3 hpre y1) (An (o4 hpre y1) tv))))) (An (An (ci (o5 hpre y1)) (zr nilN)) tv)) (An (zr true) (An (zr true) (zr true)))))
 ·refine Ja3 ?_
  refine Ja0 ?_
  refine Ja0 ?_
  refine zR [2,4,14] [0,8] (Ak 2 tv) ?_
  refine zI (!is) (fun y2 => ?_) (fun y2 => ?_)
  ·refine Ja0 ?_
   refine zR [4,5] [8] (Ak 3 tv) ?_
   refine Ja5 ?_
   exact zT [] (An (Ak 2 tv) (An (An (An (An (ci (o6 hpre y1 y2)) (zr nilN)) (An (An (ci (o7 hpre y1 y2)) (zr nilN)) (An (o8 hpre y1 y2) (An (o9 hpre y1 y2) (An (o10 hpre y1 y2) tv))))) (An (An (ci (o11 hpre y1 y2)) (zr nilN)) tv)) (An (zr true) (An (zr true) (zr true)))))
  ·refine Ja3 ?_
   refine Ja0 ?_
   refine zR [4,5] [8] (Ak 4 tv) ?_
   refine Ja5 ?_
   exact zT [] (An (Ak 2 tv) (An (An (An (An (ci (o12 hpre y1 y2)) (zr nilN)) (An (An (ci (o13 hpre y1 y2)) (zr nilN)) (An (An (zr 2) (An (o14 hpre y1 y2) (fun (i3:Nat)=>(fun (y4:i3 < (Jaz f is).strips.length)=>(o15 hpre y1 y2 i3 y4))))) (An (An (zr 3) (An (o16 hpre y1 y2) (fun (i5:Nat)=>(fun (y6:i5 < (Jaz f is).pieces.length)=>(o17 hpre y1 y2 i5 y6))))) (An (An (zr 1) (An (o18 hpre y1 y2) (fun (i7:Nat)=>(fun (y8:i7 < (Jaz f is).columns.length)=>(o19 hpre y1 y2 i7 y8))))) tv))))) (An (An (ci (o20 hpre y1 y2)) (zr nilN)) tv)) (An (zr true) (An (zr true) (zr true)))))
theorem t26 (f:Frm) (is:Bool):Ja4 Tryz.prog 26 (s26 f is):=by
 apply w26
 all_goals (try delta q1r q1s q1t)
 all_goals (intro hp h; simp only [Bool.not_eq_true',Bool.not_eq_false',decide_eq_false_iff_not,decide_eq_true_eq] at h)
 all_goals (have h0 := @Jdr f; cases e:Jbj f <;> simp only [e,JbB,Jdq,Bool.false_eq_true,iff_false,iff_true] at h h0)
 all_goals (first | (exact absurd h0 h) | (exact absurd h h0) | skip)
 all_goals (try (cases is))
 all_goals (simp [Jaz,Jcl,e,nilF,JbB,Jdq])
 all_goals (try ((repeat intro _) <;> (try simp only [Bool.cond_true_left,Bool.cond_false_right,Bool.not_not,Bool.not_eq_true',Bool.not_eq_false',Bool.or_eq_true,Bool.or_eq_false_iff,Bool.and_eq_true,decide_eq_true_eq,decide_eq_false_iff_not,inI,big,Jba,Jai,Jbn] at *) <;> first | (exact rfl) | omega | (exact ⟨Nat.zero_le _,fun j hj=>absurd hj (Nat.not_lt_zero j)⟩) | (simp_all; done) | (simp_all; omega)))
abbrev q1u (f:Frm) (c:Nat) (n:Int) (Pq:Prop):Prop:=Sound f/\c < f.columns.length /\ -1000<=n/\n<=1000->Pq
theorem w50 (f:Frm) (c:Nat) (n:Int)
 (o0:q1u f c n (0<=(c:Int)))
 (o1:q1u f c n ((c:Int) < (↑(f.columns.length):Int)))
 (o2:q1u f c n (Jbn f (col f c)))
 (o3:q1u f c n (inI ((Jax f (col f c)).lo + n)))
 (o4:q1u f c n (JaU f ((Jax f (col f c)).lo + n)=true->inI ((Jax f (col f c)).hi + n)))
 (o5:q1u f c n ((bif JaU f ((Jax f (col f c)).lo + n) then JaU f ((Jax f (col f c)).hi + n) else false)=JdY f c n)) :
  Ja4 Tryz.prog 50 (s50 f c n):=by
 refine Ja7 Tryz.func50 rfl Tryz.call50 Jaw _ rfl rfl rfl rfl (Nat.le_of_ble_eq_true (by kernel_rfl)) (fun _ _ _ _ h=>h) ?_
 intro hpre C hC _ hE
 obtain ⟨P,w0,E0,av,hA,ro,df⟩:=C
 obtain ⟨rfl,rfl,rfl⟩:=hC
 refine Ja0 ?_
 refine zR [1,2,3] [0] (Ak 2 tv) ?_
 refine Ja0 ?_
 refine zC ([(6,CallSpec.eq (s69 f (col f c)) [true,true])]) [2,3,7] [0,72] (Ak 4 (An (An (o0 hpre) (o1 hpre)) (Ak 1 (An (An (An (zr (AV.agg (cFrm f))) (An (zr (Ja6 (col f c))) tv)) (An (t69 (f) (col f c)) (An (An hpre.1 (o2 hpre)) (Ak 1 (fun (i0:Env)=>tv))))) (Ak 2 tv))))) ?_
 refine Ja0 ?_
 refine zC ([(5,CallSpec.eq (s70 f ((Jax f (col f c)).lo + n)) [true,true]),(12,CallSpec.eq (s70 f ((Jax f (col f c)).hi + n)) [true,true])]) [6] [] (Ak 4 (An (o3 hpre) (An (An (An (zr (AV.agg (cFrm f))) (An (zr (iv ((Jax f (col f c)).lo + n))) tv)) (An (t70 (f) ((Jax f (col f c)).lo + n)) (An hpre.1 (Ak 1 (fun (i1:Env)=>tv))))) (Ak 1 (An (fun (y2:JaU f ((Jax f (col f c)).lo + n)=true)=>(An (Ak 1 tv) tv)) (An (fun (y3:JaU f ((Jax f (col f c)).lo + n)=true)=>(An (Ak 1 tv) tv)) (An (fun (y4:JaU f ((Jax f (col f c)).lo + n)=true)=>(An (An (fun (y5:JaU f ((Jax f (col f c)).lo + n)=true)=>y4) tv) tv)) (An (fun (y6:JaU f ((Jax f (col f c)).lo + n)=true)=>(An (Ak 1 tv) tv)) (An (fun (y7:JaU f ((Jax f (col f c)).lo + n)=true)=>(An (An (fun (y8:JaU f ((Jax f (col f c)).lo + n)=true)=>y7) (An (fun (y9:JaU f ((Jax f (col f c)).lo + n)=true)=>y7) tv)) (o4 hpre y7))) (An (fun (y10:JaU f ((Jax f (col f c)).lo + n)=true)=>(An (Ak 1 (An (fun (y11:JaU f ((Jax f (col f c)).lo + n)=true)=>y10) (An (fun (y12:JaU f ((Jax f (col f c)).lo + n)=true)=>y10) tv))) (An (An (zr (AV.agg (cFrm f))) (An (zr (iv ((Jax f (col f c)).hi + n))) tv)) (An (t70 (f) ((Jax f (col f c)).hi + n)) (An hpre.1 (Ak 1 (fun (i13:Env)=>tv))))))) (An (An (fun (y14:JaU f ((Jax f (col f c)).lo + n)=true)=>y14) (fun (y15:JaU f ((Jax f (col f c)).lo + n)=false)=>tv)) (Ak 1 tv)))))))))))) ?_
 refine Ja5 ?_
 exact zT [] (An (Ak 1 tv) (An (An (cb (o5 hpre)) (zr nilN)) (An (zr true) (An (zr true) (zr true)))))
theorem t50 (f:Frm) (c:Nat) (n:Int):Ja4 Tryz.prog 50 (s50 f c n):=by
 apply w50
 all_goals (try delta q1u)
 case o2=>intro hp; exact Jc5 hp.1 c
 case o3=>intro hp; have:=high_bound' hp.1 (Jc5 hp.1 c); exact ⟨by omega,by omega⟩
 case o4=>intro hp _; have:=high_bound' hp.1 (Jc5 hp.1 c); exact ⟨by omega,by omega⟩
 all_goals (try ((repeat intro _) <;> (try simp only [Bool.cond_true_left,Bool.cond_false_right,Bool.not_not,Bool.not_eq_true',Bool.not_eq_false',Bool.or_eq_true,Bool.or_eq_false_iff,Bool.and_eq_true,decide_eq_true_eq,decide_eq_false_iff_not,inI,big,Jba,Jai,Jbn] at *) <;> first | (exact rfl) | omega | (exact ⟨Nat.zero_le _,fun j hj=>absurd hj (Nat.not_lt_zero j)⟩) | (simp_all; done) | (simp_all; omega)))
abbrev q1v (f:Frm) (Pq:Prop):Prop:=Jba f->(bif bif decide (40 < (↑(f.strips.length):Int)) then true else decide (40 < (↑(f.pieces.length):Int)) then true else decide (40 < (↑(f.columns.length):Int)))=false->Pq
abbrev q1w (f:Frm) (x19:Nat) (Pq:Prop):Prop:=(x19<=f.columns.length /\ ∀ (j:Nat),j < x19->decide ((↑((col f j).length):Int) > 40)=false)->Pq
abbrev q1x (f:Frm) (x19:Nat) (Pq:Prop):Prop:=q1w f x19 (decide ((x19:Int) < (↑(f.columns.length):Int))=true->Pq)
abbrev q1y (f:Frm) (x19:Nat) (Pq:Prop):Prop:=q1x f x19 (decide (40 < (↑((col f x19).length):Int))=false->Pq)
theorem w16 (f:Frm)
 (o0:Jba f->decide (40 < (↑(f.strips.length):Int))=false->(!decide (40 < (↑(f.strips.length):Int)))=true)
 (o1:Jba f->(bif decide (40 < (↑(f.strips.length):Int)) then true else decide (40 < (↑(f.pieces.length):Int)))=false->(!bif decide (40 < (↑(f.strips.length):Int)) then true else decide (40 < (↑(f.pieces.length):Int)))=true)
 (o2:Jba f->(bif bif decide (40 < (↑(f.strips.length):Int)) then true else decide (40 < (↑(f.pieces.length):Int)) then true else decide (40 < (↑(f.columns.length):Int)))=true->true=JeI f)
 (o3:q1v f (0=(↑0:Int)))
 (o4:q1v f (0<=f.columns.length /\ ∀ (j:Nat),j < 0->decide ((↑((col f j).length):Int) > 40)=false))
 (o5:q1v f (∀ (x19:Nat),q1x f x19 (0<=(x19:Int))))
 (o6:q1v f (∀ (x19:Nat),q1x f x19 ((x19:Int) < (↑(f.columns.length):Int))))
 (o7:q1v f (∀ (x19:Nat),q1x f x19 (decide (40 < (↑((col f x19).length):Int))=true->true=JeI f)))
 (o8:q1v f (∀ (x19:Nat),q1y f x19 (inI ((x19:Int) + 1))))
 (o9:q1v f (∀ (x19:Nat),q1y f x19 ((x19:Int) + 1=(↑(x19 + 1):Int))))
 (o10:q1v f (∀ (x19:Nat),q1y f x19 (x19 + 1<=f.columns.length /\ ∀ (j:Nat),j < x19 + 1->decide ((↑((col f j).length):Int) > 40)=false)))
 (o11:q1v f (∀ (x19:Nat),q1y f x19 (f.columns.length - (x19 + 1) < f.columns.length - x19)))
 (o12:q1v f (∀ (x19:Nat),q1w f x19 (decide ((x19:Int) < (↑(f.columns.length):Int))=false->false=JeI f))) :
  Ja4 Tryz.prog 16 (s16 f):=by
 refine Ja7 Tryz.func16 rfl Tryz.call16 Jaw _ rfl rfl rfl rfl (Nat.le_of_ble_eq_true (by kernel_rfl)) (fun _ _ _ _ h=>h) ?_
 intro hpre C hC _ hE
 obtain ⟨P,w0,E0,av,hA,ro,df⟩:=C
 obtain ⟨rfl,rfl,rfl⟩:=hC
 refine Ja0 ?_
 refine zR [1] [0] (Ak 2 tv) ?_
 refine Ja0 ?_
 refine Ja0 ?_
 refine zR [1,19] [0] (Ak 5 (An (fun (y0:(!decide (40 < (↑(f.strips.length):Int)))=true)=>(An (Ak 1 tv) tv)) (An (fun (y1:(!decide (40 < (↑(f.strips.length):Int)))=true)=>(An (An (fun (y2:(!decide (40 < (↑(f.strips.length):Int)))=true)=>y1) tv) tv)) (An (fun (y3:(!decide (40 < (↑(f.strips.length):Int)))=true)=>(An (An (fun (y4:(!decide (40 < (↑(f.strips.length):Int)))=true)=>y3) tv) tv)) (An (fun (y5:(!decide (40 < (↑(f.strips.length):Int)))=true)=>(An (An (fun (y6:(!decide (40 < (↑(f.strips.length):Int)))=true)=>y5) (Ak 1 tv)) tv)) (An (An (fun (y7:decide (40 < (↑(f.strips.length):Int))=true)=>tv) (fun (y8:decide (40 < (↑(f.strips.length):Int))=false)=>(o0 hpre y8))) (Ak 1 (An (fun (y9:(!bif decide (40 < (↑(f.strips.length):Int)) then true else decide (40 < (↑(f.pieces.length):Int)))=true)=>(An (Ak 1 tv) tv)) (An (fun (y10:(!bif decide (40 < (↑(f.strips.length):Int)) then true else decide (40 < (↑(f.pieces.length):Int)))=true)=>(An (An (fun (y11:(!bif decide (40 < (↑(f.strips.length):Int)) then true else decide (40 < (↑(f.pieces.length):Int)))=true)=>y10) tv) tv)) (An (fun (y12:(!bif decide (40 < (↑(f.strips.length):Int)) then true else decide (40 < (↑(f.pieces.length):Int)))=true)=>(An (An (fun (y13:(!bif decide (40 < (↑(f.strips.length):Int)) then true else decide (40 < (↑(f.pieces.length):Int)))=true)=>y12) tv) tv)) (An (fun (y14:(!bif decide (40 < (↑(f.strips.length):Int)) then true else decide (40 < (↑(f.pieces.length):Int)))=true)=>(An (An (fun (y15:(!bif decide (40 < (↑(f.strips.length):Int)) then true else decide (40 < (↑(f.pieces.length):Int)))=true)=>y14) (Ak 1 tv)) tv)) (An (An (fun (y16:(bif decide (40 < (↑(f.strips.length):Int)) then true else decide (40 < (↑(f.pieces.length):Int)))=true)=>tv) (fun (y17:(bif decide (40 < (↑(f.strips.length):Int)) then true else decide (40 < (↑(f.pieces.length):Int)))=false)=>(o1 hpre y17))) tv)))))))))))) ?_
 refine zI (bif bif decide (40 < (↑(f.strips.length):Int)) then true else decide (40 < (↑(f.pieces.length):Int)) then true else decide (40 < (↑(f.columns.length):Int))) (fun y18 => ?_) (fun y18 => ?_)
 ·refine Ja0 ?_
  refine zR [2] [] (Ak 1 tv) ?_
  refine Ja5 ?_
  exact zT [] (An (Ak 1 tv) (An (An (cb (o2 hpre y18)) (zr nilN)) (An (zr true) (An (zr true) (zr true)))))
 ·refine Ja3 ?_
  refine Ja0 ?_
  refine Ja0 ?_
  refine zR [1,3] [0] (Ak 1 tv) ?_
  refine Ja2 ?_
  refine zL (Hint.ann (h16 f) [(1,AV.ptr 0 [])] [(0,OB.cells 26 (cFrm f))] 10152) (zE hE [] [(0,.same 0)] [] [0] (An (An (An (zr (some (Src.same 0))) (zr nilP)) (An (An (ci (o3 hpre y18)) (zr nilN)) tv)) (An (An (An (zr (OB.cells 26 (cFrm f))) (zr true)) tv) (An (zr true) (zr true))))) (o4 hpre y18) (fun (x19:Nat) hx19 => ?_)
  refine Ja0 ?_
  refine Ja0 ?_
  refine zR [1,3,24] [0] (Ak 5 tv) ?_
  refine zI (decide ((x19:Int) < (↑(f.columns.length):Int))) (fun y20 => ?_) (fun y20 => ?_)
  ·refine Ja3 ?_
   refine Ja0 ?_
   refine Ja2 ?_
   refine Ja0 ?_
   refine zR [1,3,33] [0] (Ak 3 (An (An (o5 hpre y18 x19 hx19 y20) (o6 hpre y18 x19 hx19 y20)) (Ak 3 tv))) ?_
   refine zI (decide (40 < (↑((col f x19).length):Int))) (fun y21 => ?_) (fun y21 => ?_)
   ·refine Ja0 ?_
    refine zR [2] [] (Ak 1 tv) ?_
    refine Ja5 ?_
    exact zT [] (An (Ak 1 tv) (An (An (cb (o7 hpre y18 x19 hx19 y20 y21)) (zr nilN)) (An (zr true) (An (zr true) (zr true)))))
   ·refine Ja3 ?_
    refine zR [1,3] [0] (Ak 1 (An (o8 hpre y18 x19 hx19 y20 y21) (Ak 1 tv))) ?_
    exact zn (zE hE [] [(0,.same 0)] [] [0] (An (An (An (zr (some (Src.same 0))) (zr nilP)) (An (An (ci (o9 hpre y18 x19 hx19 y20 y21)) (zr nilN)) tv)) (An (An (An (zr (OB.cells 26 (cFrm f))) (zr true)) tv) (An (zr true) (zr true))))) (o10 hpre y18 x19 hx19 y20 y21) (o11 hpre y18 x19 hx19 y20 y21)
  ·refine Jaa ?_
   refine Ja0 ?_
   refine zR [2] [] (Ak 1 tv) ?_
   refine Ja5 ?_
   exact zT [] (An (Ak 1 tv) (An (An (cb (o12 hpre y18 x19 hx19 y20)) (zr nilN)) (An (zr true) (An (zr true) (zr true)))))
theorem t16 (f:Frm):Ja4 Tryz.prog 16 (s16 f):=by
 apply w16
 all_goals (try delta q1v q1w q1x q1y)
 case o2=>intro hp h; simp only [Bool.cond_true_left] at h; simp [JeI,h]
 case o7 =>
  intro hp h x hx h2 h3
  simp only [decide_eq_true_eq] at h2
  have:=JjN f.columns [] (fun l=>decide ((l.length:Int) > 40)) (by omega) h3
  simp [JeI,this]
 case o10 =>
  intro hp h x hx h2 h3
  simp only [decide_eq_true_eq] at h2
  exact ⟨by omega,Jad hx.2 h3⟩
 case o12 =>
  intro hp h x hx h2
  simp only [decide_eq_false_iff_not] at h2
  simp only [Bool.cond_true_left] at h
  have:=Jh6 f.columns [] (fun l=>decide ((l.length:Int) > 40)) (fun j hj=>hx.2 j (by omega))
  unfold JeI
  rw [this,Bool.or_false]
  exact h.symm
 all_goals (try ((repeat intro _) <;> (try simp only [Bool.cond_true_left,Bool.cond_false_right,Bool.not_not,Bool.not_eq_true',Bool.not_eq_false',Bool.or_eq_true,Bool.or_eq_false_iff,Bool.and_eq_true,decide_eq_true_eq,decide_eq_false_iff_not,inI,big,Jba,Jai,Jbn] at *) <;> first | (exact rfl) | omega | (exact ⟨Nat.zero_le _,fun j hj=>absurd hj (Nat.not_lt_zero j)⟩) | (simp_all; done) | (simp_all; omega)))
abbrev q1z (f:Frm) (Pq:Prop):Prop:=Jba f->JeI f=false->Pq
abbrev q20 (f:Frm) (Pq:Prop):Prop:=q1z f ((!decide (Jao f=0))=false->Pq)
abbrev q21 (f:Frm) (x4:Nat) (Pq:Prop):Prop:=x4<=f.strips.length->Pq
abbrev q22 (f:Frm) (x4:Nat) (Pq:Prop):Prop:=q21 f x4 (decide ((x4:Int) < (↑(f.strips.length):Int))=true->Pq)
theorem w4 (f:Frm)
 (o0:Jba f->JeI f=true->true=farF f)
 (o1:q1z f ((!decide (Jao f=0))=true->false=farF f))
 (o2:q20 f (1=Jcv f 0))
 (o3:q20 f (0=(↑0:Int)))
 (o4:q20 f (0<=f.strips.length))
 (o5:q20 f (∀ (x4:Nat),q22 f x4 (0<=(x4:Int))))
 (o6:q20 f (∀ (x4:Nat),q22 f x4 ((x4:Int) < (↑(f.strips.length):Int))))
 (o7:q20 f (∀ (x4:Nat),q22 f x4 (inI ((stp f x4).many + 1))))
 (o8:q20 f (∀ (x4:Nat),q22 f x4 (inI (Jcv f x4 * ((stp f x4).many + 1)))))
 (o9:q20 f (∀ (x4:Nat),q22 f x4 (inI ((x4:Int) + 1))))
 (o10:q20 f (∀ (x4:Nat),q22 f x4 (Jcv f x4 * ((stp f x4).many + 1)=Jcv f (x4 + 1))))
 (o11:q20 f (∀ (x4:Nat),q22 f x4 ((x4:Int) + 1=(↑(x4 + 1):Int))))
 (o12:q20 f (∀ (x4:Nat),q22 f x4 (x4 + 1<=f.strips.length)))
 (o13:q20 f (∀ (x4:Nat),q22 f x4 (f.strips.length - (x4 + 1) < f.strips.length - x4)))
 (o14:q20 f (∀ (x4:Nat),q21 f x4 (decide ((x4:Int) < (↑(f.strips.length):Int))=false->decide (30 < Jcv f x4)=farF f))) :
  Ja4 Tryz.prog 4 (s4 f):=by
 refine Ja7 Tryz.func4 rfl Tryz.call4 Jaw _ rfl rfl rfl rfl (Nat.le_of_ble_eq_true (by kernel_rfl)) (fun _ _ _ _ h=>h) ?_
 intro hpre C hC _ hE
 obtain ⟨P,w0,E0,av,hA,ro,df⟩:=C
 obtain ⟨rfl,rfl,rfl⟩:=hC
 refine Ja0 ?_
 refine zR [1] [0] (Ak 2 tv) ?_
 refine Ja0 ?_
 refine Ja0 ?_
 refine zC ([(1,CallSpec.eq (s16 f) [true])]) [1,6] [0] (Ak 1 (An (An (An (zr (AV.agg (cFrm f))) tv) (An (t16 (f)) (An hpre (Ak 1 (fun (i0:Env)=>tv))))) tv)) ?_
 refine zI (JeI f) (fun y1 => ?_) (fun y1 => ?_)
 ·refine Ja0 ?_
  refine zR [2] [] (Ak 1 tv) ?_
  refine Ja5 ?_
  exact zT [] (An (Ak 1 tv) (An (An (cb (o0 hpre y1)) (zr nilN)) (An (zr true) (An (zr true) (zr true)))))
 ·refine Ja3 ?_
  refine Ja0 ?_
  refine Ja0 ?_
  refine zC ([(1,CallSpec.eq (s5 f) [true])]) [1,9] [0] (Ak 1 (An (An (An (zr (AV.agg (cFrm f))) tv) (An (t5 (f)) (An hpre (Ak 1 (fun (i2:Env)=>tv))))) (Ak 1 tv))) ?_
  refine zI (!decide (Jao f=0)) (fun y3 => ?_) (fun y3 => ?_)
  ·refine Ja0 ?_
   refine zR [2] [] (Ak 1 tv) ?_
   refine Ja5 ?_
   exact zT [] (An (Ak 1 tv) (An (An (cb (o1 hpre y1 y3)) (zr nilN)) (An (zr true) (An (zr true) (zr true)))))
  ·refine Ja3 ?_
   refine Ja0 ?_
   refine zR [1,3] [0] (Ak 1 tv) ?_
   refine Ja0 ?_
   refine Ja0 ?_
   refine zR [1,3,4] [0] (Ak 1 tv) ?_
   refine Ja2 ?_
   refine zL (Hint.ann (h4 f) [(1,AV.ptr 0 [])] [(0,OB.cells 26 (cFrm f))] 10072) (zE hE [] [(0,.same 0)] [] [0] (An (An (An (zr (some (Src.same 0))) (zr nilP)) (An (An (ci (o2 hpre y1 y3)) (zr nilN)) (An (An (ci (o3 hpre y1 y3)) (zr nilN)) tv))) (An (An (An (zr (OB.cells 26 (cFrm f))) (zr true)) tv) (An (zr true) (zr true))))) (o4 hpre y1 y3) (fun (x4:Nat) hx4 => ?_)
   refine Ja0 ?_
   refine Ja0 ?_
   refine zR [1,3,4,14] [0] (Ak 5 tv) ?_
   refine zI (decide ((x4:Int) < (↑(f.strips.length):Int))) (fun y5 => ?_) (fun y5 => ?_)
   ·refine Ja3 ?_
    refine Ja0 ?_
    refine Ja2 ?_
    refine zR [1,3,4] [0] (Ak 4 (An (An (o5 hpre y1 y3 x4 hx4 y5) (o6 hpre y1 y3 x4 hx4 y5)) (Ak 2 (An (o7 hpre y1 y3 x4 hx4 y5) (An (o8 hpre y1 y3 x4 hx4 y5) (Ak 1 tv)))))) ?_
    refine zR [1,3,4] [0] (Ak 1 (An (o9 hpre y1 y3 x4 hx4 y5) (Ak 1 tv))) ?_
    exact zn (zE hE [] [(0,.same 0)] [] [0] (An (An (An (zr (some (Src.same 0))) (zr nilP)) (An (An (ci (o10 hpre y1 y3 x4 hx4 y5)) (zr nilN)) (An (An (ci (o11 hpre y1 y3 x4 hx4 y5)) (zr nilN)) tv))) (An (An (An (zr (OB.cells 26 (cFrm f))) (zr true)) tv) (An (zr true) (zr true))))) (o12 hpre y1 y3 x4 hx4 y5) (o13 hpre y1 y3 x4 hx4 y5)
   ·refine Jaa ?_
    refine Ja0 ?_
    refine zR [2] [] (Ak 3 tv) ?_
    refine Ja5 ?_
    exact zT [] (An (Ak 1 tv) (An (An (cb (o14 hpre y1 y3 x4 hx4 y5)) (zr nilN)) (An (zr true) (An (zr true) (zr true)))))
theorem t4 (f:Frm):Ja4 Tryz.prog 4 (s4 f):=by
 apply w4
 all_goals (try delta q1z q20 q21 q22)
 case o0=>intro hp h; simp [farF,h]
 case o1=>intro hp h h2; simp only [Bool.not_eq_true',decide_eq_false_iff_not] at h2; cases e:Jbj f <;> simp_all [farF,Jao]
 case o7=>intro hp h h2 x hx h3; simp only [Bool.not_eq_false',decide_eq_true_eq] at h2 h3; have:=(Jds (Jdr.1 h2)).strip x (by omega); exact ⟨by omega,by omega⟩
 case o8=>intro hp h h2 x hx h3; simp only [Bool.not_eq_false',decide_eq_true_eq] at h2 h3; exact JpM (Jds (Jdr.1 h2)) (by omega)
 case o9=>intro hp h h2 x hx h3; have:=hp.1; simp only [big] at *; exact ⟨by omega,by omega⟩
 case o10=>intro hp h h2 x hx h3; exact (Je1 f x).symm
 case o14=>intro hp h h2 x hx h3; simp only [Bool.not_eq_false',decide_eq_true_eq] at h2; simp only [decide_eq_false_iff_not] at h3; rw [show x=f.strips.length by omega]; simp [farF,h,Jdr.1 h2]
 all_goals (try ((repeat intro _) <;> (try simp only [Bool.cond_true_left,Bool.cond_false_right,Bool.not_not,Bool.not_eq_true',Bool.not_eq_false',Bool.or_eq_true,Bool.or_eq_false_iff,Bool.and_eq_true,decide_eq_true_eq,decide_eq_false_iff_not,inI,big,Jba,Jai,Jbn] at *) <;> first | (exact rfl) | omega | (exact ⟨Nat.zero_le _,fun j hj=>absurd hj (Nat.not_lt_zero j)⟩) | (simp_all; done) | (simp_all; omega)))
end Go.Ab
namespace Go.Sh
def idxW (l:List Int) (P:Int->Bool):Int:=match l.findIdx? P with | some i=>i | none => -1
theorem JkQ {l:List Int} {P:Int->Bool} {x:Nat} (hx:x < l.length) (h:∀ j,j < x->P (l.getD j 0)=false) (hp:P (l.getD x 0)=true):idxW l P=x:=by
 have:l.findIdx? P=some x:=by
  rw [List.findIdx?_eq_some_iff_getElem]
  refine ⟨hx,by rw [← Go.Ab.Jaf l 0 hx]; exact hp,fun j hj => ?_⟩
  rw [← Go.Ab.Jaf l 0 (by omega),h j hj]; simp
 simp [idxW,this]
theorem Jmq {l:List Int} {P:Int->Bool} (h:∀ j,j < l.length->P (l.getD j 0)=false):idxW l P = -1:=by
 have:l.findIdx? P=none:=by
  rw [List.findIdx?_eq_none_iff]
  intro x hx
  have h1:=Go.Ab.Jh6 l 0 P h
  rw [List.any_eq_false] at h1
  simpa using h1 x hx
 simp [idxW,this]
theorem Ji7 (l:List Int) (P:Int->Bool):(idxW l P = -1 /\ ∀ w,w ∈ l->P w=false) ∨ ∃ i:Nat,idxW l P=i/\i < l.length/\P (l.getD i 0)=true /\ ∀ j,j < i->P (l.getD j 0)=false:=by
 unfold idxW
 cases e:l.findIdx? P with
 | none =>
  left
  rw [List.findIdx?_eq_none_iff] at e
  exact ⟨rfl,e⟩
 | some i =>
  right
  rw [List.findIdx?_eq_some_iff_getElem] at e
  obtain ⟨h,h1,h2⟩:=e
  refine ⟨i,rfl,h,by rw [Go.Ab.Jaf l 0 h]; exact h1,fun j hj => ?_⟩
  rw [Go.Ab.Jaf l 0 (by omega)]
  simpa using h2 j hj
def JaE (l:List Int) (P:Int->Bool) (n:Nat):List Int:=(l.take n).filter fun w => !P w
def delW (l:List Int) (P:Int->Bool):List Int:=l.filter fun w => !P w
theorem Jeo {l:List Int} {P:Int->Bool} {n:Nat} (h:n < l.length) (hp:P (l.getD n 0)=true):JaE l P (n + 1)=JaE l P n:=by
 unfold JaE; rw [Go.Ab.JaV _ 0 h,List.filter_append,List.filter_cons_of_neg (by rw [hp]; exact Bool.false_ne_true),List.filter_nil,List.append_nil]
theorem Jep {l:List Int} {P:Int->Bool} {n:Nat} (h:n < l.length) (hp:P (l.getD n 0)=false):JaE l P (n + 1)=JaE l P n ++ [l.getD n 0]:=by
 unfold JaE; rw [Go.Ab.JaV _ 0 h,List.filter_append,List.filter_cons_of_pos (by rw [hp]; rfl)]; rfl
theorem Ji8 (l:List Int) (P:Int->Bool) (n:Nat):(JaE l P n).length<=n:=by
 unfold JaE; exact Nat.le_trans (List.length_filter_le _ _) (by rw [List.length_take]; omega)
theorem Jdt {l:List Int} {P:Int->Bool} {n:Nat} (h:l.length<=n):JaE l P n=delW l P:=by
 unfold JaE delW; rw [List.take_of_length_le h]
theorem Jjk {l:List Int} {P:Int->Bool}:∀ {n:Nat},n<=l.length->(∀ j,j < n->P (l.getD j 0)=false)->JaE l P n=l.take n:=by
 intro n
 induction n with
 | zero=>intro _ _; rfl
 | succ n ih=>intro h h1; rw [Jep (by omega) (h1 n (by omega)),ih (by omega) (fun j hj=>h1 j (by omega)),Go.Ab.JaV _ 0 (by omega)]
def rowW (l:List Int) (P:Int->Bool) (n q:Nat):Int:=if q < (JaE l P n).length then (JaE l P n).getD q 0 else l.getD q 0
def Jb5 (l:List Int) (P:Int->Bool):Nat:=(idxW l P).toNat
theorem Jeq {l:List Int} {P:Int->Bool} (h:decide (idxW l P = -1)=false):idxW l P=Jb5 l P/\Jb5 l P < l.length/\P (l.getD (Jb5 l P) 0)=true /\ ∀ j,j < Jb5 l P->P (l.getD j 0)=false:=by
 have h0:idxW l P ≠ -1:=of_decide_eq_false h
 rcases Ji7 l P with ⟨e,_⟩ | ⟨i,e,h1,h2,h3⟩
 ·exact absurd e h0
 ·have:Jb5 l P=i:=by unfold Jb5; rw [e]; rfl
  rw [this]; exact ⟨e,h1,h2,h3⟩
theorem Jer {l:List Int} {P:Int->Bool} (h:decide (idxW l P = -1)=false):JaE l P (Jb5 l P + 1)=l.take (Jb5 l P)/\(JaE l P (Jb5 l P + 1)).length=Jb5 l P:=by
 obtain ⟨_,h1,h2,h3⟩:=Jeq h
 have:JaE l P (Jb5 l P + 1)=l.take (Jb5 l P):=by rw [Jeo h1 h2,Jjk (by omega) h3]
 exact ⟨this,by rw [this,List.length_take]; omega⟩
theorem JpN {l:List Int} {P:Int->Bool} (h:decide (idxW l P = -1)=false):∀ j,Jb5 l P + 1<=j->j<=l.length->(JaE l P j).length < j:=by
 intro j h1
 induction j with
 | zero=>omega
 | succ j ih =>
  intro h2
  by_cases e:j=Jb5 l P
  ·rw [e,(Jer h).2]; omega
  ·have h3:=ih (by omega) (by omega)
   cases hp:P (l.getD j 0) with
   | true=>rw [Jeo (by omega) hp]; omega
   | false=>rw [Jep (by omega) hp,List.length_append]; simp; omega
theorem Ji9 (l:List Int) (P:Int->Bool) (j:Nat):rowW l P j j=l.getD j 0:=by
 unfold rowW; rw [if_neg (by have:=Ji8 l P j; omega)]
theorem rowW_t {l:List Int} {P:Int->Bool} {j:Nat} (h:j < l.length) (hp:P (l.getD j 0)=true) (q:Nat):rowW l P (j + 1) q=rowW l P j q:=by unfold rowW; rw [Jeo h hp]
theorem rowW_f {l:List Int} {P:Int->Bool} {j:Nat} (h:j < l.length) (hp:P (l.getD j 0)=false) (q:Nat):rowW l P (j + 1) q=if q=(JaE l P j).length then l.getD j 0 else rowW l P j q:=by
 unfold rowW
 rw [Jep h hp,List.length_append,List.length_singleton,Go.Ab.Jbf]
 by_cases h1:q < (JaE l P j).length
 ·rw [if_pos (by omega),if_pos h1,if_neg (by omega),if_pos h1]
 ·by_cases h2:q=(JaE l P j).length
  ·subst h2; rw [if_pos (by omega),if_neg h1,if_pos rfl,Nat.sub_self]; rfl
  ·rw [if_neg (by omega),if_neg h2,if_neg h1]
theorem JkR {l:List Int} {P:Int->Bool} (h:decide (idxW l P = -1)=false) (q:Nat):rowW l P (Jb5 l P + 1) q=l.getD q 0:=by
 obtain ⟨h1,h2⟩:=Jer h
 have h3:=(Jeq h).2.1
 unfold rowW
 rw [h2]
 split
 ·rename_i hq
  rw [h1,Go.Ab.Jaf _ _ (by rw [List.length_take]; omega),List.getElem_take,Go.Ab.Jaf _ _ (by omega)]
 ·rfl
theorem JjV {l:List Int} {P:Int->Bool} (h:decide (idxW l P = -1)=true):delW l P=l:=by
 have h0:idxW l P = -1:=of_decide_eq_true h
 rcases Ji7 l P with ⟨_,h1⟩ | ⟨i,e,_⟩
 ·unfold delW; rw [List.filter_eq_self]; intro w hw; rw [h1 w hw]; rfl
 ·omega
end Go.Sh
namespace Go.Sh
open Go Go.Ab Go.En
def endA (ws:List Int) (P:Int->Bool) (q:Nat):List AV:=if q < (delW ws P).length then [iv ((delW ws P).getD q 0)] else [iv 0]
theorem Jmr {ws:List Int} {P:Int->Bool} {q:Nat} (h:q < (delW ws P).length):endA ws P q = [iv ((delW ws P).getD q 0)]:=if_pos h
theorem JpO {ws:List Int} {P:Int->Bool} {q:Nat} (h:¬ q < (delW ws P).length):endA ws P q = [iv 0]:=if_neg h
theorem JjW {w:Int} {n:Nat} (h:0<=w) (h1:w<=1000):inI (w / 2 ^ n):=by
 have h2:0<=w / 2 ^ n:=Int.ediv_nonneg h (Int.le_of_lt (Int.pow_pos (by omega)))
 have h3:w / 2 ^ n<=w:=Int.ediv_le_self _ h
 constructor <;> omega
def bitP (w:Int) (p:Int):Bool:=decide (w / 2 ^ p.toNat % 2=1)
end Go.Sh
namespace Go.Ab
open Go Go.RowKit Go.Proofs Go.Sh Go.En
abbrev rowN (l:List Int):OB:=rowI 3 l
def ou62 (ws:List Int):OutSpec:={ args:=[Ja6 ws],pre:=0 < ws.length/\ws.length<=60000,res := .vec 0,hout:=[(0,rowN ws)] }
def ou62n:OutSpec:={ args:=[nilv],res := .vec 0,hout:=[(0,rowN [])] }
def ou62e (a:Addr) (c:Nat):OutSpec:={ args:=[.lit (.slice (some a) 0 c)],res := .vec 0,hout:=[(0,rowN [])] }
def s62o (l:List Int) (id:Nat):CallSpec:={ args:=[Ja6 l],pre:=l.length<=60000,res := .vec id,hout:=[(id,rowN l)] }
def io67 (ws:List Int) (P:Int->Bool):IoSpec:={ args:=[.vec 0,.fn 0],pre:=ws.length<=65536,fnok:=Jdc Tryz.prog 0 (fun w:{ w:Int // w ∈ ws }=>[iv w.1]) (fun w=>bv (P w.1)),hin:=[(0,rowN ws)],res:=iv (idxW ws P),hout:=[(0,rowN ws)] }
def s67 (b:Nat) (ws:List Int) (P:Int->Bool):CallSpec:=(io67 ws P).at [(0,b)]
def h67 (ws:List Int) (P:Int->Bool):Hint:={ X:=Nat,M:=fun i=>[(8,iv i)],I:=fun i=>i<=ws.length /\ ∀ j,j < i->P (ws.getD j 0)=false,mu:=fun i=>ws.length - i,x0:=(0:Nat),nx:=fun i=>i + 1 }
def c67 (ws:List Int) (P:Int->Bool) (x:Nat):CallSpec:={ args:=[iv (ws.getD x 0)],res:=bv (P (ws.getD x 0)) }
def io61 (ws:List Int) (P:Int->Bool):IoSpec:={ args:=[.vec 0,.fn 0],pre:=ws.length<=65536,fnok:=Jdc Tryz.prog 0 (fun w:{ w:Int // w ∈ ws }=>[iv w.1]) (fun w=>bv (P w.1)),hin:=[(0,rowN ws)],res:=Ja6 (delW ws P),hout:=[] }
def s61 (b:Nat) (ws:List Int) (P:Int->Bool):CallSpec:=(io61 ws P).at [(0,b)]
def h61 (ws:List Int) (P:Int->Bool):Hint:={ X:=Nat,M:=fun j=>[(5,iv (JaE ws P j).length),(6,iv j)],H:=fun j=>[(0,.vec 3 1 ws.length (fun q=>[iv (rowW ws P j q)]))],I:=fun j=>Jb5 ws P + 1<=j/\j<=ws.length,mu:=fun j=>ws.length - j,x0:=Jb5 ws P + 1,nx:=fun j=>j + 1 }
def c61a (ws:List Int) (P:Int->Bool):CallSpec:=s67 0 ws P
def c61b (ws:List Int) (P:Int->Bool) (x:Nat):CallSpec:={ args:=[iv (ws.getD x 0)],res:=bv (P (ws.getD x 0)) }
def s63 (p w:Int):CallSpec:={ args:=[iv p,.rp [iv w]],res:=bv (bitP w p),pre:=0<=p/\p<=62/\0<=w/\w<=1000 }
end Go.Ab
namespace Go.Ab
open Go Go.RowKit Go.Proofs Go.Sh Go.En
theorem wo62 (ws:List Int)
  (o0:0 < ws.length/\ws.length<=60000->0 + ws.length<=65536)
  (o1:0 < ws.length/\ws.length<=60000->0 + ws.length=ws.length)
  (l:List (Nat × Nat)) (hl:l.map (·.1)=(OutSpec.hout (ou62 ws)).map (·.1)) (hnd:(l.map (·.2)).Nodup) :
  Ja4 Tryz.prog 62 (OutSpec.at (ou62 ws) l):=by
 refine Jbu Tryz.func62 rfl Tryz.call62 Jaw _ _ _ _ l rfl (Nat.le_of_ble_eq_true (by kernel_rfl)) hl hnd (by kernel_rfl) (by kernel_rfl) (by kernel_rfl) ?_
 intro hpre C hC hE
 obtain ⟨P,w0,E0,av,hA,ro,df⟩:=C
 obtain ⟨rfl,rfl,rfl⟩:=hC
 refine Ja0 ?_
 refine zR [0] [] (Ak 1 tv) ?_
 refine Ja0 ?_
 refine Ja0 ?_
 refine zR [0,4] [] (Ak 1 (An hpre.1 tv)) ?_
 refine zf ?_
 refine Ja3 ?_
 refine Ja0 ?_
 refine zR [2] [40] (Ak 2 (An (o0 hpre) (Ak 1 tv))) ?_
 refine Ja5 ?_
 exact zO (ASt.mk [(2,AV.vec 0)] [(0,OB.vec 3 1 ws.length fun (i:Nat)=>[iv (ws.getD i 0)])] 100) (zE hE [] [(0,.same 40)] [] [] (An (An (zr (some (Src.same 40))) tv) (An (An (An (zr 3) (An (zr 1) (An (o1 hpre) (fun (i0:Nat)=>(fun (y1:i0 < 0 + ws.length)=>(zr ([iv (ws.getD i0 0)]))))))) tv) (An (zr true) (zr true))))) (An (Ak 1 tv) (An (zr (AV.vec 0)) (An (zr (some (OB.vec 3 1 ws.length fun (i:Nat)=>[iv (ws.getD i 0)]))) tv)))
theorem wo62n 
  (l:List (Nat × Nat)) (hl:l.map (·.1)=(OutSpec.hout (ou62n)).map (·.1)) (hnd:(l.map (·.2)).Nodup) :
  Ja4 Tryz.prog 62 (OutSpec.at (ou62n) l):=by
 refine Jbu Tryz.func62 rfl Tryz.call62 Jaw _ _ _ _ l rfl (Nat.le_of_ble_eq_true (by kernel_rfl)) hl hnd (by kernel_rfl) (by kernel_rfl) (by kernel_rfl) ?_
 intro _ C hC hE
 obtain ⟨P,w0,E0,av,hA,ro,df⟩:=C
 obtain ⟨rfl,rfl,rfl⟩:=hC
 refine Ja0 ?_
 refine zR [0] [] (Ak 1 tv) ?_
 refine Ja0 ?_
 refine Ja0 ?_
 refine zR [0,4] [] (Ak 2 tv) ?_
 refine zt ?_
 refine Ja0 ?_
 refine zR [2] [] (Ak 1 tv) ?_
 refine Ja5 ?_
 exact zO (ASt.mk [(2,AV.vec 0)] [(0,OB.vec 3 1 0 fun (i:Nat)=>[iv (List.getD [] i 0)])] 100) (zE hE [] [(0,.nil)] [] [] (An (An (zr (some Src.nil)) tv) (An (An (zr 0) tv) (An (zr true) (zr true))))) (An (Ak 1 tv) (An (zr (AV.vec 0)) (An (zr (some (OB.vec 3 1 0 fun (i:Nat)=>[iv (List.getD [] i 0)]))) tv)))
theorem wo62e (a:Addr) (c:Nat)
  (o0:∀ (i0:Nat),i0 < 0->nilA = [iv (List.getD [] i0 0)])
  (l:List (Nat × Nat)) (hl:l.map (·.1)=(OutSpec.hout (ou62e a c)).map (·.1)) (hnd:(l.map (·.2)).Nodup) :
  Ja4 Tryz.prog 62 (OutSpec.at (ou62e a c) l):=by
 refine Jbu Tryz.func62 rfl Tryz.call62 Jaw _ _ _ _ l rfl (Nat.le_of_ble_eq_true (by kernel_rfl)) hl hnd (by kernel_rfl) (by kernel_rfl) (by kernel_rfl) ?_
 intro _ C hC hE
 obtain ⟨P,w0,E0,av,hA,ro,df⟩:=C
 obtain ⟨rfl,rfl,rfl⟩:=hC
 refine Ja0 ?_
 refine zR [0] [] (Ak 1 tv) ?_
 refine Ja0 ?_
 refine Ja0 ?_
 refine zR [0,4] [] (Ak 2 tv) ?_
 refine zf ?_
 refine Ja3 ?_
 refine Ja0 ?_
 refine zR [2] [40] (Ak 2 (An (by decide:0 + 0<=65536) (Ak 1 tv))) ?_
 refine Ja5 ?_
 exact zO (ASt.mk [(2,AV.vec 0)] [(0,OB.vec 3 1 0 fun (i:Nat)=>[iv (List.getD [] i 0)])] 100) (zE hE [] [(0,.same 40)] [] [] (An (An (zr (some (Src.same 40))) tv) (An (An (An (zr 3) (An (zr 1) (An (zr 0) (fun (i0:Nat)=>(fun (y1:i0 < 0)=>(o0 i0 y1)))))) tv) (An (zr true) (zr true))))) (An (Ak 1 tv) (An (zr (AV.vec 0)) (An (zr (some (OB.vec 3 1 0 fun (i:Nat)=>[iv (List.getD [] i 0)]))) tv)))
theorem t62o (ws:List Int) (id:Nat):Ja4 Tryz.prog 62 (s62o ws id):=by
 have t0:=wo62n (l:=[(0,id)]) (hl:=rfl) (hnd:=by simp)
 refine ⟨t0.1,fun hp E w vs hf hh hl hr hq => ?_⟩
 cases ws with
 | nil =>
  have key:∀ v,vs.getD 0 undef=v -> ∀ k,Rel E true (([.lit v]:List AV).getD k .any) (vs.getD k undef):=fun v e k=>by
   cases k with
   | zero=>rw [e]; exact .lit v
   | succ k=>exact .any _
  have h0:=hr 0
  change Rel E true (.sl 1 0 _) (vs.getD 0 undef) at h0
  generalize e:vs.getD 0 undef=v at h0
  cases h0 with
  | slN=>exact t0.2 trivial E w vs hf hh hl (key _ e) hq
  | slA=>exact (wo62e _ _ (fun _ h=>absurd h (by omega)) (l:=[(0,id)]) (hl:=rfl) (hnd:=by simp)).2 trivial E w vs hf hh hl (key _ e) hq
  | slZ=>exact (wo62e _ _ (fun _ h=>absurd h (by omega)) (l:=[(0,id)]) (hl:=rfl) (hnd:=by simp)).2 trivial E w vs hf hh hl (key _ e) hq
 | cons a ws =>
  refine (wo62 (a :: ws) (l:=[(0,id)]) ?_ ?_ (hl:=rfl) (hnd:=by simp)).2 ⟨Nat.succ_pos _,hp⟩ E w vs hf hh hl hr hq
  all_goals ((repeat intro _) <;> (try simp only [Bool.cond_true_left,Bool.cond_false_right,Bool.not_not,Bool.not_eq_true',Bool.not_eq_false',Bool.or_eq_true,Bool.or_eq_false_iff,Bool.and_eq_true,decide_eq_true_eq,decide_eq_false_iff_not,inI,big] at *) <;> first | (exact rfl) | omega | (exact ⟨Nat.zero_le _,fun j hj=>absurd hj (Nat.not_lt_zero j)⟩) | (simp_all; done) | (simp_all; omega))
abbrev q23 (ws:List Int) (P:Int->Bool) (E0:Env) (Pq:Prop):Prop:=Jdc Tryz.prog 0 (fun (w:{ w:Int // w ∈ ws })=>[iv (Subtype.val w)]) (fun (w:{ w:Int // w ∈ ws })=>bv (P (Subtype.val w))) E0->ws.length<=65536->Pq
abbrev q24 (ws:List Int) (P:Int->Bool) (x0:Nat) (Pq:Prop):Prop:=(x0<=ws.length /\ ∀ (j:Nat),j < x0->P (ws.getD j 0)=false)->Pq
abbrev q25 (ws:List Int) (P:Int->Bool) (x0:Nat) (Pq:Prop):Prop:=q24 ws P x0 (decide ((x0:Int) < (↑(ws.length):Int))=true->Pq)
theorem wio67 (ws:List Int) (P:Int->Bool)
 (o0:∀ (E0:Env),q23 ws P E0 (0=(↑0:Int)))
 (o1:∀ (E0:Env),q23 ws P E0 (0<=ws.length /\ ∀ (j:Nat),j < 0->P (ws.getD j 0)=false))
 (o2:∀ (E0:Env),q23 ws P E0 (∀ (x0:Nat),q25 ws P x0 (0<=(x0:Int))))
 (o3:∀ (E0:Env),q23 ws P E0 (∀ (x0:Nat),q25 ws P x0 ((x0:Int) < (↑(ws.length):Int))))
 (o4:∀ (E0:Env),q23 ws P E0 (∀ (x0:Nat),q25 ws P x0 (x0 < ws.length)))
 (o5:∀ (E0:Env),q23 ws P E0 (∀ (x0:Nat),q25 ws P x0 (∀ (i2:Value),E0.4 0 i2->FnOK Tryz.prog E0 i2 [iv (ws.getD x0 0)] (bv (P (ws.getD x0 0))))))
 (o6:∀ (E0:Env),q23 ws P E0 (∀ (x0:Nat),q25 ws P x0 (P (ws.getD x0 0)=true->(x0:Int)=idxW ws P)))
 (o7:∀ (E0:Env),q23 ws P E0 (∀ (x0:Nat),q25 ws P x0 (P (ws.getD x0 0)=false->inI ((x0:Int) + 1))))
 (o8:∀ (E0:Env),q23 ws P E0 (∀ (x0:Nat),q25 ws P x0 (P (ws.getD x0 0)=false->(x0:Int) + 1=(↑(x0 + 1):Int))))
 (o9:∀ (E0:Env),q23 ws P E0 (∀ (x0:Nat),q25 ws P x0 (P (ws.getD x0 0)=false->x0 + 1<=ws.length /\ ∀ (j:Nat),j < x0 + 1->P (ws.getD j 0)=false)))
 (o10:∀ (E0:Env),q23 ws P E0 (∀ (x0:Nat),q25 ws P x0 (P (ws.getD x0 0)=false->ws.length - (x0 + 1) < ws.length - x0)))
 (o11:∀ (E0:Env),q23 ws P E0 (∀ (x0:Nat),q24 ws P x0 (decide ((x0:Int) < (↑(ws.length):Int))=false -> -1=idxW ws P)))
  (l:List (Nat × Nat)) (hl:l.map (·.1) = [0]) (hnd:(l.map (·.2)).Nodup) :
  Ja4 Tryz.prog 67 (IoSpec.at (io67 ws P) l):=by
 refine JbU Tryz.func67 rfl Tryz.call67 Jaw (io67 ws P) 1 l (by rw [hl]; kernel_rfl) hnd (Nat.le_of_ble_eq_true (by kernel_rfl)) JeA ?_
 intro hpre C hC hfn hE
 obtain ⟨P,w0,E0,av,hA,ro,df⟩:=C
 obtain ⟨rfl,rfl,rfl⟩:=hC
 refine Ja0 ?_
 refine zR [0,1] [0] (Ak 1 tv) ?_
 refine Ja0 ?_
 refine Ja0 ?_
 refine zR [0,1,7,8] [0] (Ak 3 tv) ?_
 refine Ja2 ?_
 refine zL (Hint.ann (h67 ws P) [(0,AV.vec 0),(1,AV.fn 0),(7,iv (↑(ws.length):Int))] [(0,OB.vec 3 1 ws.length fun (i:Nat)=>[iv (ws.getD i 0)])] 10033) (zEn 1 hE [] [(0,.same 0)] [1,7] [0] (An (An (zr (some (Src.same 0))) (An (An (zr (AV.fn 0)) (zr true)) (An (An (zr (iv (↑(ws.length):Int))) (zr true)) (An (An (ci (o0 E0 hfn hpre)) (zr nilN)) tv)))) (An (An (An (zr (OB.vec 3 1 ws.length fun (i:Nat)=>[iv (ws.getD i 0)])) (zr true)) tv) (An (zr true) (zr true))))) (o1 E0 hfn hpre) (fun (x0:Nat) hx0 => ?_)
 refine Ja0 ?_
 refine zR [0,1,7,8,9] [0] (Ak 1 tv) ?_
 refine Ja0 ?_
 refine zI (decide ((x0:Int) < (↑(ws.length):Int))) (fun y1 => ?_) (fun y1 => ?_)
 ·refine Ja3 ?_
  refine Ja0 ?_
  refine Ja2 ?_
  refine Ja0 ?_
  refine zR [0,1,7,8,5] [0] (Ak 2 tv) ?_
  refine Ja0 ?_
  refine zC ([(5,CallSpec.eq (c67 ws P x0) [true])]) [0,1,7,8,5,16] [0] (Ak 3 (An (An (o2 E0 hfn hpre x0 hx0 y1) (o3 E0 hfn hpre x0 hx0 y1)) (An (An (o4 E0 hfn hpre x0 hx0 y1) tv) (An (An (An (zr (iv (ws.getD x0 0))) tv) (fun (i2:Value)=>(fun (y3:E0.4 0 i2)=>(o5 E0 hfn hpre x0 hx0 y1 i2 y3)))) tv)))) ?_
  refine zI (P (ws.getD x0 0)) (fun y4 => ?_) (fun y4 => ?_)
  ·refine Ja0 ?_
   refine zR [4] [0] (Ak 2 tv) ?_
   refine Ja5 ?_
   exact zO (ASt.mk [(4,iv (idxW ws P))] [(0,OB.vec 3 1 ws.length fun (i:Nat)=>[iv (ws.getD i 0)])] 100) (zEn 1 hE [] [(0,.same 0)] [] [0] (An (An (An (ci (o6 E0 hfn hpre x0 hx0 y1 y4)) (zr nilN)) tv) (An (An (An (zr (OB.vec 3 1 ws.length fun (i:Nat)=>[iv (ws.getD i 0)])) (zr true)) tv) (An (zr true) (zr true))))) (An (Ak 1 tv) (An (zr (iv (idxW ws P))) (An (zr (some (OB.vec 3 1 ws.length fun (i:Nat)=>[iv (ws.getD i 0)]))) tv)))
  ·refine Ja3 ?_
   refine zR [0,1,7,8] [0] (An (o7 E0 hfn hpre x0 hx0 y1 y4) (Ak 1 tv)) ?_
   exact zn (zEn 1 hE [] [(0,.same 0)] [1,7] [0] (An (An (zr (some (Src.same 0))) (An (An (zr (AV.fn 0)) (zr true)) (An (An (zr (iv (↑(ws.length):Int))) (zr true)) (An (An (ci (o8 E0 hfn hpre x0 hx0 y1 y4)) (zr nilN)) tv)))) (An (An (An (zr (OB.vec 3 1 ws.length fun (i:Nat)=>[iv (ws.getD i 0)])) (zr true)) tv) (An (zr true) (zr true))))) (o9 E0 hfn hpre x0 hx0 y1 y4) (o10 E0 hfn hpre x0 hx0 y1 y4)
 ·refine Jaa ?_
  refine Ja0 ?_
  refine zR [4] [0] (Ak 1 tv) ?_
  refine Ja5 ?_
  exact zO (ASt.mk [(4,iv (idxW ws P))] [(0,OB.vec 3 1 ws.length fun (i:Nat)=>[iv (ws.getD i 0)])] 100) (zEn 1 hE [] [(0,.same 0)] [] [0] (An (An (An (ci (o11 E0 hfn hpre x0 hx0 y1)) (zr nilN)) tv) (An (An (An (zr (OB.vec 3 1 ws.length fun (i:Nat)=>[iv (ws.getD i 0)])) (zr true)) tv) (An (zr true) (zr true))))) (An (Ak 1 tv) (An (zr (iv (idxW ws P))) (An (zr (some (OB.vec 3 1 ws.length fun (i:Nat)=>[iv (ws.getD i 0)]))) tv)))
theorem t67 (b:Nat) (ws:List Int) (P:Int->Bool):Ja4 Tryz.prog 67 (s67 b ws P):=by
 refine wio67 ws P ?_ ?_ ?_ ?_ ?_ ?_ ?_ ?_ ?_ ?_ ?_ ?_ [(0,b)] rfl (by simp)
 case refine_6=>intro E0 hfn hp x hx hl u hu; exact hfn u hu ⟨_,Jbc ws 0 (by simpa using hl)⟩
 case refine_7=>intro E0 hfn hp x hx hl h; simp only [decide_eq_true_eq] at hl; exact (JkQ (by omega) hx.2 h).symm
 case refine_10=>intro E0 hfn hp x hx hl h; simp only [decide_eq_true_eq] at hl; exact ⟨by omega,Jad hx.2 h⟩
 case refine_12=>intro E0 hfn hp x hx hl; simp only [decide_eq_false_iff_not] at hl; exact (Jmq (fun j hj=>hx.2 j (by omega))).symm
 all_goals ((repeat intro _) <;> (try simp only [Bool.cond_true_left,Bool.cond_false_right,Bool.not_not,Bool.not_eq_true',Bool.not_eq_false',Bool.or_eq_true,Bool.or_eq_false_iff,Bool.and_eq_true,decide_eq_true_eq,decide_eq_false_iff_not,inI,big] at *) <;> first | (exact rfl) | omega | (exact ⟨Nat.zero_le _,fun j hj=>absurd hj (Nat.not_lt_zero j)⟩) | (simp_all; done) | (simp_all; omega))
abbrev q26 (ws:List Int) (P:Int->Bool) (E0:Env) (Pq:Prop):Prop:=Jdc Tryz.prog 0 (fun (w:{ w:Int // w ∈ ws })=>[iv (Subtype.val w)]) (fun (w:{ w:Int // w ∈ ws })=>bv (P (Subtype.val w))) E0->ws.length<=65536->Pq
abbrev q27 (ws:List Int) (P:Int->Bool) (E0:Env) (Pq:Prop):Prop:=q26 ws P E0 (decide (idxW ws P = -1)=false->Pq)
abbrev q28 (ws:List Int) (P:Int->Bool) (x8:Nat) (Pq:Prop):Prop:=Jb5 ws P + 1<=x8/\x8<=ws.length->Pq
abbrev q29 (ws:List Int) (P:Int->Bool) (x8:Nat) (Pq:Prop):Prop:=q28 ws P x8 (decide ((x8:Int) < (↑(ws.length):Int))=true->Pq)
abbrev q2a (ws:List Int) (P:Int->Bool) (x8:Nat) (Pq:Prop):Prop:=q29 ws P x8 ((!P (ws.getD x8 0))=true->Pq)
abbrev q2b (ws:List Int) (P:Int->Bool) (x8:Nat) (Pq:Prop):Prop:=q28 ws P x8 (decide ((x8:Int) < (↑(ws.length):Int))=false->Pq)
theorem wio61 (ws:List Int) (P:Int->Bool)
 (o0:∀ (E0:Env),q26 ws P E0 (∀ (i0:Env) (i1:List Value),Env.le E0 i0->i1.length=2->(∀ (k:Nat),Rel i0 true (List.getD [AV.vec 0,AV.fn 0] k AV.any) (i1.getD k undef))->Jdc Tryz.prog 0 (fun (w:{ w:Int // w ∈ ws })=>[iv (Subtype.val w)]) (fun (w:{ w:Int // w ∈ ws })=>bv (P (Subtype.val w))) (Env.mk i0.1 i0.2 i0.3 fun (k:Nat) (u:Value) => ∃ (i:Nat),[AV.vec 0,AV.fn 0][i]? = some (AV.fn k)/\i1[i]? = some u)))
 (o1:∀ (E0:Env),q26 ws P E0 (decide (idxW ws P = -1)=true->ws.length=(delW ws P).length))
 (o2:∀ (E0:Env),q26 ws P E0 (decide (idxW ws P = -1)=true -> ∀ (i6:Nat),i6 < (delW ws P).length -> [iv (ws.getD i6 0)] = [iv ((delW ws P).getD i6 0)]))
 (o3:∀ (E0:Env),q27 ws P E0 (inI (idxW ws P + 1)))
 (o4:∀ (E0:Env),q27 ws P E0 (idxW ws P=(↑((JaE ws P (Nat.succ (Nat.add (Jb5 ws P) 0))).length):Int)))
 (o5:∀ (E0:Env),q27 ws P E0 (idxW ws P + 1=(↑(Nat.succ (Nat.add (Jb5 ws P) 0)):Int)))
 (o6:∀ (E0:Env),q27 ws P E0 (∀ (i9:Nat),i9 < ws.length -> [iv (ws.getD i9 0)] = [iv (rowW ws P (Nat.succ (Nat.add (Jb5 ws P) 0)) i9)]))
 (o7:∀ (E0:Env),q27 ws P E0 (Jb5 ws P + 1<=Nat.succ (Nat.add (Jb5 ws P) 0)/\Nat.succ (Nat.add (Jb5 ws P) 0)<=ws.length))
 (o8:∀ (E0:Env),q27 ws P E0 (∀ (x8:Nat),q29 ws P x8 (0<=(x8:Int))))
 (o9:∀ (E0:Env),q27 ws P E0 (∀ (x8:Nat),q29 ws P x8 ((x8:Int) < (↑(ws.length):Int))))
 (o10:∀ (E0:Env),q27 ws P E0 (∀ (x8:Nat),q29 ws P x8 (x8 < ws.length)))
 (o11:∀ (E0:Env),q27 ws P E0 (∀ (x8:Nat),q29 ws P x8 (rowW ws P x8 x8=ws.getD x8 0)))
 (o12:∀ (E0:Env),q27 ws P E0 (∀ (x8:Nat),q29 ws P x8 (∀ (i12:Value),E0.4 0 i12->FnOK Tryz.prog E0 i12 [iv (ws.getD x8 0)] (bv (P (ws.getD x8 0))))))
 (o13:∀ (E0:Env),q27 ws P E0 (∀ (x8:Nat),q2a ws P x8 (0<=(↑((JaE ws P x8).length):Int))))
 (o14:∀ (E0:Env),q27 ws P E0 (∀ (x8:Nat),q2a ws P x8 ((↑((JaE ws P x8).length):Int) < (↑(ws.length):Int))))
 (o15:∀ (E0:Env),q27 ws P E0 (∀ (x8:Nat),q2a ws P x8 ((JaE ws P x8).length < ws.length)))
 (o16:∀ (E0:Env),q27 ws P E0 (∀ (x8:Nat),q2a ws P x8 (inI ((↑((JaE ws P x8).length):Int) + 1))))
 (o17:∀ (E0:Env),q27 ws P E0 (∀ (x8:Nat),q2a ws P x8 (inI ((x8:Int) + 1))))
 (o18:∀ (E0:Env),q27 ws P E0 (∀ (x8:Nat),q2a ws P x8 ((↑((JaE ws P x8).length):Int) + 1=(↑((JaE ws P (x8 + 1)).length):Int))))
 (o19:∀ (E0:Env),q27 ws P E0 (∀ (x8:Nat),q2a ws P x8 ((x8:Int) + 1=(↑(x8 + 1):Int))))
 (o20:∀ (E0:Env),q27 ws P E0 (∀ (x8:Nat),q2a ws P x8 (∀ (i15:Nat),i15 < ws.length->Decidable.rec (fun (h:¬i15=(JaE ws P x8).length)=>[iv (rowW ws P x8 i15)]) (fun (h:i15=(JaE ws P x8).length)=>[iv (rowW ws P x8 x8)] ++ []) (instDecidableEqNat i15 (JaE ws P x8).length) = [iv (rowW ws P (x8 + 1) i15)])))
 (o21:∀ (E0:Env),q27 ws P E0 (∀ (x8:Nat),q2a ws P x8 (Jb5 ws P + 1<=x8 + 1/\x8 + 1<=ws.length)))
 (o22:∀ (E0:Env),q27 ws P E0 (∀ (x8:Nat),q2a ws P x8 (ws.length - (x8 + 1) < ws.length - x8)))
 (o23:∀ (E0:Env),q27 ws P E0 (∀ (x8:Nat),q29 ws P x8 ((!P (ws.getD x8 0))=false->inI ((x8:Int) + 1))))
 (o24:∀ (E0:Env),q27 ws P E0 (∀ (x8:Nat),q29 ws P x8 ((!P (ws.getD x8 0))=false->(↑((JaE ws P x8).length):Int)=(↑((JaE ws P (x8 + 1)).length):Int))))
 (o25:∀ (E0:Env),q27 ws P E0 (∀ (x8:Nat),q29 ws P x8 ((!P (ws.getD x8 0))=false->(x8:Int) + 1=(↑(x8 + 1):Int))))
 (o26:∀ (E0:Env),q27 ws P E0 (∀ (x8:Nat),q29 ws P x8 ((!P (ws.getD x8 0))=false -> ∀ (i17:Nat),i17 < ws.length -> [iv (rowW ws P x8 i17)] = [iv (rowW ws P (x8 + 1) i17)])))
 (o27:∀ (E0:Env),q27 ws P E0 (∀ (x8:Nat),q29 ws P x8 ((!P (ws.getD x8 0))=false->Jb5 ws P + 1<=x8 + 1/\x8 + 1<=ws.length)))
 (o28:∀ (E0:Env),q27 ws P E0 (∀ (x8:Nat),q29 ws P x8 ((!P (ws.getD x8 0))=false->ws.length - (x8 + 1) < ws.length - x8)))
 (o29:∀ (E0:Env),q27 ws P E0 (∀ (x8:Nat),q2b ws P x8 (0<=(↑((JaE ws P x8).length):Int))))
 (o30:∀ (E0:Env),q27 ws P E0 (∀ (x8:Nat),q2b ws P x8 ((↑((JaE ws P x8).length):Int) < (↑(ws.length):Int))))
 (o31:∀ (E0:Env),q27 ws P E0 (∀ (x8:Nat),q2b ws P x8 ((JaE ws P x8).length + (ws.length - (JaE ws P x8).length)=ws.length)))
 (o32:∀ (E0:Env),q27 ws P E0 (∀ (x8:Nat),q2b ws P x8 (0 < ws.length - (JaE ws P x8).length)))
 (o33:∀ (E0:Env),q27 ws P E0 (∀ (x8:Nat),q2b ws P x8 (∀ (i19:Nat),i19 < ws.length->Decidable.rec (fun (h:¬i19 < (JaE ws P x8).length)=>[iv 0]) (fun (h:i19 < (JaE ws P x8).length)=>[iv (rowW ws P x8 i19)]) (Nat.decLt i19 (JaE ws P x8).length)=endA ws P i19)))
 (o34:∀ (E0:Env),q27 ws P E0 (∀ (x8:Nat),q2b ws P x8 (0<=(↑((JaE ws P x8).length):Int))))
 (o35:∀ (E0:Env),q27 ws P E0 (∀ (x8:Nat),q2b ws P x8 ((↑((JaE ws P x8).length):Int)<=(↑(ws.length):Int))))
 (o36:∀ (E0:Env),q27 ws P E0 (∀ (x8:Nat),q2b ws P x8 ((JaE ws P x8).length=(delW ws P).length)))
 (o37:∀ (E0:Env),q27 ws P E0 (∀ (x8:Nat),q2b ws P x8 (∀ (i23:Nat),i23 < (delW ws P).length->endA ws P i23 = [iv ((delW ws P).getD i23 0)])))
  (l:List (Nat × Nat)) (hl:l.map (·.1) = [0]) (hnd:(l.map (·.2)).Nodup) :
  Ja4 Tryz.prog 61 (IoSpec.at (io61 ws P) l):=by
 refine JbU Tryz.func61 rfl Tryz.call61 Jaw (io61 ws P) 1 l (by rw [hl]; kernel_rfl) hnd (Nat.le_of_ble_eq_true (by kernel_rfl)) JeA ?_
 intro hpre C hC hfn hE
 obtain ⟨P,w0,E0,av,hA,ro,df⟩:=C
 obtain ⟨rfl,rfl,rfl⟩:=hC
 refine Ja0 ?_
 refine zR [0,1] [0] (Ak 1 tv) ?_
 refine Ja0 ?_
 refine zC ([(2,CallSpec.eq (c61a ws P) [true,true])]) [0,1,5] [0] (Ak 2 (An (An (An (zr (AV.vec 0)) (An (zr (AV.fn 0)) tv)) (An (t67 (0) (ws) (P)) (An hpre (An (An (zr (some (OB.vec 3 1 ws.length fun (i:Nat)=>[iv (ws.getD i 0)]))) tv) (fun (i0:Env)=>(fun (i1:List Value)=>(fun (y2:Env.le E0 i0)=>(fun (y3:i1.length=2)=>(fun (y4:∀ (k:Nat),Rel i0 true (List.getD [AV.vec 0,AV.fn 0] k AV.any) (i1.getD k undef))=>(o0 E0 hfn hpre i0 i1 y2 y3 y4)))))))))) (Ak 1 tv))) ?_
 refine Ja0 ?_
 refine Ja0 ?_
 refine zR [0,1,5,12] [0] (Ak 2 tv) ?_
 refine zI (decide (idxW ws P = -1)) (fun y5 => ?_) (fun y5 => ?_)
 ·refine Ja0 ?_
  refine zR [4] [0] (Ak 2 tv) ?_
  refine Ja5 ?_
  exact zO (ASt.mk [(4,Ja6 (delW ws P))] [] 100) (zEn 1 hE [0] [] [] [] (An (An (An (zr 1) (An (o1 E0 hfn hpre y5) (fun (i6:Nat)=>(fun (y7:i6 < (delW ws P).length)=>(o2 E0 hfn hpre y5 i6 y7))))) tv) (Ak 1 (An (zr true) (zr true))))) (An (Ak 1 tv) (An (zr (Ja6 (delW ws P))) tv))
 ·refine Ja3 ?_
  refine Ja0 ?_
  refine Ja0 ?_
  refine zR [0,1,5,6] [0] (Ak 1 (An (o3 E0 hfn hpre y5) (Ak 1 tv))) ?_
  refine Ja2 ?_
  refine zL (Hint.ann (h61 ws P) [(0,AV.vec 0),(1,AV.fn 0)] [] 10081) (zEn 1 hE [] [(0,.same 0)] [1] [] (An (An (zr (some (Src.same 0))) (An (An (zr (AV.fn 0)) (zr true)) (An (An (ci (o4 E0 hfn hpre y5)) (zr nilN)) (An (An (ci (o5 E0 hfn hpre y5)) (zr nilN)) tv)))) (An (An (An (zr 3) (An (zr 1) (An (zr ws.length) (fun (i9:Nat)=>(fun (y10:i9 < ws.length)=>(o6 E0 hfn hpre y5 i9 y10)))))) tv) (An (zr true) (zr true))))) (o7 E0 hfn hpre y5) (fun (x8:Nat) hx8 => ?_)
  refine Ja0 ?_
  refine Ja0 ?_
  refine zR [0,1,5,6,19] [0] (Ak 4 tv) ?_
  refine zI (decide ((x8:Int) < (↑(ws.length):Int))) (fun y11 => ?_) (fun y11 => ?_)
  ·refine Ja3 ?_
   refine Ja0 ?_
   refine Ja2 ?_
   refine Ja0 ?_
   refine zR [0,1,5,6,7] [0] (Ak 2 (An (An (o8 E0 hfn hpre y5 x8 hx8 y11) (o9 E0 hfn hpre y5 x8 hx8 y11)) (An (An (o10 E0 hfn hpre y5 x8 hx8 y11) tv) (Ak 1 tv)))) ?_
   refine Ja0 ?_
   refine zC ([(2,CallSpec.eq (c61b ws P x8) [false])]) [0,1,5,6,7,29] [0] (Ak 2 (An (An (An (ci (o11 E0 hfn hpre y5 x8 hx8 y11)) tv) (fun (i12:Value)=>(fun (y13:E0.4 0 i12)=>(o12 E0 hfn hpre y5 x8 hx8 y11 i12 y13)))) (Ak 1 tv))) ?_
   refine zI (!P (ws.getD x8 0)) (fun y14 => ?_) (fun y14 => ?_)
   ·refine Ja0 ?_
    refine zR [0,1,5,6] [0] (Ak 3 (An (An (o13 E0 hfn hpre y5 x8 hx8 y11 y14) (o14 E0 hfn hpre y5 x8 hx8 y11 y14)) (An (An (o15 E0 hfn hpre y5 x8 hx8 y11 y14) tv) tv))) ?_
    refine zR [0,1,5,6] [0] (Ak 1 (An (o16 E0 hfn hpre y5 x8 hx8 y11 y14) (Ak 1 tv))) ?_
    refine zR [0,1,5,6] [0] (Ak 1 (An (o17 E0 hfn hpre y5 x8 hx8 y11 y14) (Ak 1 tv))) ?_
    exact zn (zEn 1 hE [] [(0,.same 0)] [1] [] (An (An (zr (some (Src.same 0))) (An (An (zr (AV.fn 0)) (zr true)) (An (An (ci (o18 E0 hfn hpre y5 x8 hx8 y11 y14)) (zr nilN)) (An (An (ci (o19 E0 hfn hpre y5 x8 hx8 y11 y14)) (zr nilN)) tv)))) (An (An (An (zr 3) (An (zr 1) (An (zr ws.length) (fun (i15:Nat)=>(fun (y16:i15 < ws.length)=>(o20 E0 hfn hpre y5 x8 hx8 y11 y14 i15 y16)))))) tv) (An (zr true) (zr true))))) (o21 E0 hfn hpre y5 x8 hx8 y11 y14) (o22 E0 hfn hpre y5 x8 hx8 y11 y14)
   ·refine Ja3 ?_
    refine zR [0,1,5,6] [0] (Ak 1 (An (o23 E0 hfn hpre y5 x8 hx8 y11 y14) (Ak 1 tv))) ?_
    exact zn (zEn 1 hE [] [(0,.same 0)] [1] [] (An (An (zr (some (Src.same 0))) (An (An (zr (AV.fn 0)) (zr true)) (An (An (ci (o24 E0 hfn hpre y5 x8 hx8 y11 y14)) (zr nilN)) (An (An (ci (o25 E0 hfn hpre y5 x8 hx8 y11 y14)) (zr nilN)) tv)))) (An (An (An (zr 3) (An (zr 1) (An (zr ws.length) (fun (i17:Nat)=>(fun (y18:i17 < ws.length)=>(o26 E0 hfn hpre y5 x8 hx8 y11 y14 i17 y18)))))) tv) (An (zr true) (zr true))))) (o27 E0 hfn hpre y5 x8 hx8 y11 y14) (o28 E0 hfn hpre y5 x8 hx8 y11 y14)
  ·refine Jaa ?_
   refine Ja0 ?_
   refine zR [0,5] [0] (Ak 2 (An (An (o29 E0 hfn hpre y5 x8 hx8 y11) (o30 E0 hfn hpre y5 x8 hx8 y11)) (An (An (o31 E0 hfn hpre y5 x8 hx8 y11) (o32 E0 hfn hpre y5 x8 hx8 y11)) tv))) ?_
   refine Ja0 ?_
   refine Jbi (zEn (st2:=ASt.mk [(0,AV.vec 0),(5,iv (↑((JaE ws P x8).length):Int))] [(0,OB.vec 3 1 ws.length fun (q:Nat)=>endA ws P q)] 10145) 1 hE [] [(0,.same 0)] [5] [] (An (An (zr (some (Src.same 0))) (An (An (zr (iv (↑((JaE ws P x8).length):Int))) (zr true)) tv)) (An (An (An (zr 3) (An (zr 1) (An (zr ws.length) (fun (i19:Nat)=>(fun (y20:i19 < ws.length)=>(o33 E0 hfn hpre y5 x8 hx8 y11 i19 y20)))))) tv) (An (zr true) (zr true))))) ?_
   refine Jbi (zEn (st2:=ASt.mk [(0,AV.sl 1 ws.length fun (q:Nat)=>endA ws P q),(5,iv (↑((JaE ws P x8).length):Int))] [] 10145) 1 hE [0] [] [5] [] (An (An (An (zr 1) (An (zr ws.length) (fun (i21:Nat)=>(fun (y22:i21 < ws.length)=>(zr (endA ws P i21)))))) (An (An (zr (iv (↑((JaE ws P x8).length):Int))) (zr true)) tv)) (Ak 1 (An (zr true) (zr true))))) ?_
   refine zR [4] [] (Ak 2 (An (An (o34 E0 hfn hpre y5 x8 hx8 y11) (o35 E0 hfn hpre y5 x8 hx8 y11)) (Ak 1 tv))) ?_
   refine Ja5 ?_
   exact zO (ASt.mk [(4,Ja6 (delW ws P))] [] 100) (zEn 1 hE [] [] [] [] (An (An (An (zr 1) (An (o36 E0 hfn hpre y5 x8 hx8 y11) (fun (i23:Nat)=>(fun (y24:i23 < (delW ws P).length)=>(o37 E0 hfn hpre y5 x8 hx8 y11 i23 y24))))) tv) (Ak 1 (An (zr true) (zr true))))) (An (Ak 1 tv) (An (zr (Ja6 (delW ws P))) tv))
theorem Jgp {α:Type} {i j:Nat} {a:¬ i=j->α} {b:i=j->α} {c:α} (h1:∀ h,a h=c) (h2:∀ h,b h=c):(Decidable.rec a b (instDecidableEqNat i j):α)=c:=by
 cases instDecidableEqNat i j with
 | isTrue h=>exact h2 h
 | isFalse h=>exact h1 h
theorem rec_lt {α:Type} {i j:Nat} {a:¬ i < j->α} {b:i < j->α} {c:α} (h1:∀ h,a h=c) (h2:∀ h,b h=c):(Decidable.rec a b (Nat.decLt i j):α)=c:=by
 cases Nat.decLt i j with
 | isTrue h=>exact h2 h
 | isFalse h=>exact h1 h
theorem t61 (b:Nat) (ws:List Int) (P:Int->Bool):Ja4 Tryz.prog 61 (s61 b ws P):=by
 apply wio61 ws P (l:=[(0,b)]) (hl:=rfl) (hnd:=by simp)
 all_goals (try delta q26 q27 q28 q29 q2a q2b)
 all_goals (first | ((repeat intro _) <;> (try simp only [Bool.cond_true_left,Bool.cond_false_right,Bool.not_not,Bool.not_eq_true',Bool.not_eq_false',Bool.or_eq_true,Bool.or_eq_false_iff,Bool.and_eq_true,decide_eq_true_eq,decide_eq_false_iff_not,inI,big] at *) <;> first | (exact rfl) | omega | (exact ⟨Nat.zero_le _,fun j hj=>absurd hj (Nat.not_lt_zero j)⟩) | (simp_all; done) | (simp_all; omega)) | skip)
 case o0 =>
  intro E0 hfn hp E us le hl hr
  refine Jm5 1 (fun j' h => ?_) rfl hfn E us le hl hr
  match j',h with
  | 0,h=>cases h
  | 1,_=>rfl
  | n + 2,h=>simp at h
 case o1=>intro E0 _ hp h; rw [JjV h]
 case o2=>intro E0 _ hp h i _; rw [JjV h]
 all_goals (intro E0 hfn hp h; obtain ⟨f1,f2,f3,f4⟩:=Jeq h)
 case o3=>exact ⟨by omega,by omega⟩
 case o4=>show idxW ws P=((JaE ws P (Jb5 ws P + 1)).length:Int); rw [(Jer h).2]; exact f1
 case o5=>show idxW ws P + 1=((Jb5 ws P + 1:Nat):Int); omega
 case o6=>intro i _; show _ = [iv (rowW ws P (Jb5 ws P + 1) i)]; rw [JkR h]
 case o7=>show Jb5 ws P + 1<=Jb5 ws P + 1/\Jb5 ws P + 1<=ws.length; omega
 all_goals (intro x hx hl; have hk:=JpN h x hx.1 hx.2; simp only [decide_eq_true_eq,decide_eq_false_iff_not] at hl)
 case o11=>rw [Ji9]
 case o12=>intro u hu; exact hfn u hu ⟨_,Jbc ws 0 (by omega)⟩
 case o14 | o15=>intro _; omega
 case o16=>intro _; exact ⟨by omega,by omega⟩
 case o18=>intro hn; rw [Jep (by omega) (by simpa using hn),List.length_append]; rfl
 case o20 =>
  intro hn i hi
  rw [rowW_f (by omega) (by simpa using hn)]
  exact Jgp (fun h=>by rw [if_neg h]) (fun h=>by rw [if_pos h,Ji9]; rfl)
 case o24=>intro hn; rw [Jeo (by omega) (by simpa using hn)]
 case o26=>intro hn i hi; rw [rowW_t (by omega) (by simpa using hn)]
 all_goals (have e:x=ws.length:=by omega)
 case o30 | o31 | o32 | o35=>omega
 case o33 =>
  have hkf:JaE ws P x=delW ws P:=Jdt (by omega)
  intro i hi
  rw [hkf]
  refine rec_lt (fun h=>(JpO h).symm) (fun h => ?_)
  rw [Jmr h]
  unfold rowW
  rw [hkf,if_pos h]
 case o36=>rw [Jdt (by omega)]
 case o37=>intro i hi; exact Jmr hi
abbrev q2c (p:Int) (w:Int) (Pq:Prop):Prop:=0<=p/\p<=62/\0<=w/\w<=1000->Pq
theorem w63 (p:Int) (w:Int)
 (o0:q2c p w (p<=62))
 (o1:q2c p w (0<=w / 2 ^ p.toNat))
 (o2:q2c p w (inI (w / 2 ^ p.toNat)))
 (o3:q2c p w (decide (w / 2 ^ p.toNat % 2=1)=bitP w p)) :
  Ja4 Tryz.prog 63 (s63 p w):=by
 refine Ja7 Tryz.func63 rfl Tryz.call63 Jaw _ rfl rfl rfl rfl (Nat.le_of_ble_eq_true (by kernel_rfl)) (fun _ _ _ _ h=>h) ?_
 intro hpre C hC _ hE
 obtain ⟨P,w0,E0,av,hA,ro,df⟩:=C
 obtain ⟨rfl,rfl,rfl⟩:=hC
 refine Ja0 ?_
 refine zR [0,1] [] (Ak 1 tv) ?_
 refine Ja0 ?_
 refine zR [3] [] (Ak 2 (An (An hpre.1 (o0 hpre)) (An (An (o1 hpre) (An (zr (1:Int)) (o2 hpre))) (Ak 2 tv)))) ?_
 refine Ja5 ?_
 exact zT [] (An (Ak 1 tv) (An (An (cb (o3 hpre)) (zr nilN)) (An (zr true) (An (zr true) (zr true)))))
theorem t63 (p w:Int):Ja4 Tryz.prog 63 (s63 p w):=by
 apply w63
 all_goals (try delta q2c)
 case o1=>intro h; exact Int.ediv_nonneg h.2.2.1 (Int.le_of_lt (Int.pow_pos (by omega)))
 case o2=>intro h; exact JjW h.2.2.1 h.2.2.2
 all_goals (try ((repeat intro _) <;> (try simp only [Bool.cond_true_left,Bool.cond_false_right,Bool.not_not,Bool.not_eq_true',Bool.not_eq_false',Bool.or_eq_true,Bool.or_eq_false_iff,Bool.and_eq_true,decide_eq_true_eq,decide_eq_false_iff_not,inI,big] at *) <;> first | (exact rfl) | omega | (exact ⟨Nat.zero_le _,fun j hj=>absurd hj (Nat.not_lt_zero j)⟩) | (simp_all; done) | (simp_all; omega)))
end Go.Ab
namespace Go.Sh
open Go.Ab
def Jak:List Int->Nat
 | []=>1
 | a :: ws=>(a.toNat + 1) * Jak ws
def setN:List Int->Nat->List Int
 | [],_=>[]
 | _ :: ws,i=>((i / Jak ws:Nat):Int) :: setN ws (i % Jak ws)
def Jaq (left set:List Int):List Int:=(List.range left.length).map fun q=>left.getD q 0 - set.getD q 0
abbrev Lay:=Option (List (List Int) × Int)
def Jdf (set:List Int) (n:Nat):Int:=(List.range n).foldl (fun a i=>a + set.getD i 0) 0
def sumS (set:List Int):Int:=Jdf set set.length
def layS (b:Lay):List (List Int):=match b with | some x=>x.1 | none=>[]
def layM (b:Lay):Int:=match b with | some x=>x.2 | none=>0
def Jcw (m:Int) (b:Lay):Bool:=match b with | none=>true | some x=>decide (m < x.2)
def Jfu (f:Frm) (r:Span) (g:List Int->Lay) (left:List Int) (b:Lay) (i:Nat):Lay :=
 if Ja1 (JaA f (setN left i)) r.lo r.hi then
  match g (Jaq left (setN left i)) with
  | none=>b
  | some x=>if Jcw (sumS (setN left i) + x.2) b then some (setN left i :: x.1,sumS (setN left i) + x.2) else b
 else b
def Jav (f:Frm):List Span->List Int->Lay
 | [],_=>some ([],0)
 | r :: rs,left=>(List.range (Jak left)).foldl (Jfu f r (Jav f rs) left) none
def Jag (f:Frm) (rooms:List Span) (left:List Int) (n:Nat):Lay:=(List.range n).foldl (Jfu f (rooms.getD 0 ⟨0,0⟩) (Jav f (rooms.drop 1)) left) none
theorem Jfv {f:Frm} {rooms:List Span} {left:List Int} (h:rooms.length ≠ 0):Jav f rooms left=Jag f rooms left (Jak left):=by
 cases rooms with
 | nil=>exact absurd rfl h
 | cons r rs=>rfl
theorem Jfw (f:Frm) (rooms:List Span) (left:List Int) (n:Nat):Jag f rooms left (n + 1)=Jfu f (rooms.getD 0 ⟨0,0⟩) (Jav f (rooms.drop 1)) left (Jag f rooms left n) n:=by
 unfold Jag; rw [List.range_succ,List.foldl_append]; rfl
theorem JcD:∀ left:List Int,0 < Jak left
 | []=>Nat.one_pos
 | _ :: ws=>Nat.mul_pos (Nat.succ_pos _) (JcD ws)
theorem Jbw:∀ (left:List Int) (i:Nat),(setN left i).length=left.length
 | [],_=>rfl
 | _ :: ws,i=>by rw [setN,List.length_cons,Jbw ws,List.length_cons]
theorem Jfx:∀ (left:List Int) (q:Nat),(setN left 0).getD q 0=0
 | [],q=>by simp [setN]
 | _ :: ws,q=>by
  rw [setN,Nat.zero_div,Nat.zero_mod]
  cases q with
  | zero=>rfl
  | succ q=>exact Jfx ws q
theorem JpP:∀ {left:List Int},(∀ q,q < left.length->0<=left.getD q 0) -> ∀ {i:Nat},i < Jak left -> ∀ q,q < left.length->0<=(setN left i).getD q 0/\(setN left i).getD q 0<=left.getD q 0:=by
 intro left
 induction left with
 | nil=>intro _ i _ q hq; exact absurd hq (Nat.not_lt_zero _)
 | cons a ws ih =>
  intro h i hi q hq
  rw [setN]
  cases q with
  | zero =>
   have h0:0<=a:=h 0 (Nat.succ_pos _)
   have h1:i / Jak ws < a.toNat + 1:=Nat.div_lt_of_lt_mul (by rw [Nat.mul_comm]; exact hi)
   show 0<=((i / Jak ws:Nat):Int)/\((i / Jak ws:Nat):Int)<=a
   generalize i / Jak ws=d at h1 ⊢
   constructor <;> omega
  | succ q=>exact ih (fun q hq=>h (q + 1) (Nat.succ_lt_succ hq)) (Nat.mod_lt _ (JcD ws)) q (Nat.lt_of_succ_lt_succ hq)
theorem Jia:∀ {left:List Int},(∀ q,q < left.length->0<=left.getD q 0) -> ∀ {i:Nat},i < Jak left->(∀ q,q < left.length->(setN left i).getD q 0=left.getD q 0)->i + 1=Jak left:=by
 intro left
 induction left with
 | nil=>intro _ i hi _; have:i < 1:=hi; show i + 1=1; omega
 | cons a ws ih =>
  intro h i hi hf
  have h0:0<=a:=h 0 (Nat.succ_pos _)
  have h1:((i / Jak ws:Nat):Int)=a:=hf 0 (Nat.succ_pos _)
  have h2:=ih (fun q hq=>h (q + 1) (Nat.succ_lt_succ hq)) (Nat.mod_lt i (JcD ws)) (fun q hq=>hf (q + 1) (Nat.succ_lt_succ hq))
  have h3:=Nat.div_add_mod i (Jak ws)
  have h4:i / Jak ws=a.toNat:=by omega
  show i + 1=(a.toNat + 1) * Jak ws
  rw [Nat.add_mul,Nat.one_mul,← h4,Nat.mul_comm]; omega
theorem Je2:∀ {left:List Int},(∀ q,q < left.length->0<=left.getD q 0) -> ∀ {i:Nat},i < Jak left -> ∀ {k:Nat},k < left.length->(∀ q,k < q->q < left.length->(setN left i).getD q 0=left.getD q 0) →
  (setN left i).getD k 0 ≠ left.getD k 0->i + 1 < Jak left /\ ∀ q,q < left.length->(setN left (i + 1)).getD q 0=if q=k then (setN left i).getD q 0 + 1 else if q < k then (setN left i).getD q 0 else 0:=by
 intro left
 induction left with
 | nil=>intro _ i _ k hk; exact absurd hk (Nat.not_lt_zero _)
 | cons a ws ih =>
  intro h i hi k hk hf hn
  have h0:0<=a:=h 0 (Nat.succ_pos _)
  have hp:=JcD ws
  have hm:=Nat.mod_lt i hp
  have h3:=Nat.div_add_mod i (Jak ws)
  have hi':i < (a.toNat + 1) * Jak ws:=hi
  have h1:i / Jak ws < a.toNat + 1:=Nat.div_lt_of_lt_mul (by rw [Nat.mul_comm]; exact hi)
  have h':∀ q,q < ws.length->0<=ws.getD q 0:=fun q hq=>h (q + 1) (Nat.succ_lt_succ hq)
  cases k with
  | zero =>
   have h2:=Jia h' hm (fun q hq=>hf (q + 1) (Nat.succ_pos _) (Nat.succ_lt_succ hq))
   have hn':((i / Jak ws:Nat):Int) ≠ a:=hn
   have e1:i + 1=Jak ws * (i / Jak ws + 1):=by rw [Nat.mul_add,Nat.mul_one]; omega
   have e2:(i + 1) / Jak ws=i / Jak ws + 1:=by rw [e1,Nat.mul_div_cancel_left _ hp]
   have e3:(i + 1) % Jak ws=0:=by rw [e1,Nat.mul_mod_right]
   refine ⟨?_,fun q hq => ?_⟩
   ·show i + 1 < (a.toNat + 1) * Jak ws
    rw [e1,Nat.mul_comm]
    exact Nat.mul_lt_mul_of_pos_right (by omega) hp
   ·rw [setN,setN,e2,e3]
    cases q with
    | zero=>rw [if_pos rfl]; show ((i / Jak ws + 1:Nat):Int)=((i / Jak ws:Nat):Int) + 1; omega
    | succ q=>rw [if_neg (by omega),if_neg (by omega)]; exact Jfx ws q
  | succ k =>
   obtain ⟨g1,g2⟩:=ih h' hm (Nat.lt_of_succ_lt_succ hk) (fun q hq hl=>hf (q + 1) (Nat.succ_lt_succ hq) (Nat.succ_lt_succ hl)) hn
   have e1:i + 1=(i % Jak ws + 1) + Jak ws * (i / Jak ws):=by omega
   have e2:(i + 1) / Jak ws=i / Jak ws:=by rw [e1,Nat.add_mul_div_left _ _ hp,Nat.div_eq_of_lt g1,Nat.zero_add]
   have e3:(i + 1) % Jak ws=i % Jak ws + 1:=by rw [e1,Nat.add_mul_mod_self_left,Nat.mod_eq_of_lt g1]
   refine ⟨?_,fun q hq => ?_⟩
   ·show i + 1 < (a.toNat + 1) * Jak ws
    refine Nat.lt_of_lt_of_le (m:=Jak ws * (i / Jak ws + 1)) (by rw [Nat.mul_add,Nat.mul_one]; omega) ?_
    rw [Nat.mul_comm]; exact Nat.mul_le_mul_right _ h1
   ·rw [setN,setN,e2,e3]
    cases q with
    | zero=>rw [if_neg (by omega),if_pos (by omega)]; rfl
    | succ q =>
     have:=g2 q (Nat.lt_of_succ_lt_succ hq)
     by_cases c1:q=k
     ·rw [if_pos c1] at this; rw [if_pos (by omega)]; exact this
     ·rw [if_neg c1] at this
      rw [if_neg (by omega)]
      by_cases c2:q < k
      ·rw [if_pos c2] at this; rw [if_pos (by omega)]; exact this
      ·rw [if_neg c2] at this; rw [if_neg (by omega)]; exact this
def rowO (left:List Int) (i:Nat) (k:Int) (q:Nat):Int:=if (q:Int)<=k then (setN left i).getD q 0 else 0
def JbZ (left set:List Int) (n:Nat) (q:Nat):Int:=if q < n then left.getD q 0 - set.getD q 0 else left.getD q 0
structure GoodLeft (f:Frm) (left:List Int):Prop where
 len:left.length=f.strips.length
 pos:∀ q,q < left.length->0<=left.getD q 0/\left.getD q 0<=(stp f q).many
theorem JbC (left set:List Int):(Jaq left set).length=left.length:=by unfold Jaq; rw [List.length_map,List.length_range]
theorem Jdg {left set:List Int} {q:Nat} (h:q < left.length):(Jaq left set).getD q 0=left.getD q 0 - set.getD q 0:=by
 unfold Jaq
 rw [Jaf _ _ (by rw [List.length_map,List.length_range]; exact h),List.getElem_map,List.getElem_range]
end Go.Sh
namespace Go.En
open Go Go.Ab Go.Sh
def Jhc (l:List Span):AV := .sl 2 l.length (fun i=>Jb6 (l.getD i ⟨0,0⟩))
def cLay (b:Lay):List AV:=[JaP (layS b),iv (layM b)]
abbrev vLay (b:Lay):AV := .opt b.isSome (cLay b)
end Go.En
namespace Go.Ab
open Go Go.RowKit Go.Proofs Go.Sh Go.En
def Joi:CallSpec:={ args:=[],res := .any }
def clo159 (left:List Int):AV := .clo 93 [.rp [Ja6 left]]
def s77 (f:Frm) (left:List Int):CallSpec:={ args:=[vFrm f,Ja6 left],res:=clo159 left }
def s66 (f:Frm) (rooms:List Span) (left:List Int):CallSpec:={ args:=[vFrm f,Jhc rooms,Ja6 left],res:=vLay (Jav f rooms left),pre:=Sound f/\GoodLeft f left/\rooms.length<=3 }
abbrev JjX (f:Frm) (rooms:List Span) (left:List Int) (i:Nat):OB := .cells 93 [vLay (Jag f rooms left i)]
def h93a (f:Frm) (rooms:List Span) (left:List Int):Hint:={ X:=Nat,M:=fun i=>[(3,.vec 5000)],H:=fun i=>[(56,JjX f rooms left i),(5000,rowI 3 (setN left i))],I:=fun i=>i < Jak left,mu:=fun i=>Jak left - i,x0:=(0:Nat),nx:=fun i=>i + 1 }
def h93b (f:Frm) (rooms:List Span) (left:List Int) (i:Nat):Hint:={ X:=Nat,M:=fun n=>[(4,iv ((left.length:Int) - 1 - n))],H:=fun n=>[(5000,.vec 3 1 left.length (fun q=>[iv (rowO left i ((left.length:Int) - 1 - n) q)]))],I:=fun n=>n<=left.length /\ ∀ q,left.length - n<=q->q < left.length->(setN left i).getD q 0=left.getD q 0,mu:=fun n=>left.length - n,x0:=(0:Nat),nx:=fun n=>n + 1 }
def r66 (f:Frm) (rooms:List Span) (left:List Int):RangeH:={ J:=Nat,ok:=fun i=>i < Jak left,Y:=fun i=>{ args:=[.vec 5000],hin:=[(56,JjX f rooms left i),(5000,rowI 3 (setN left i))],res:=bv true,hout:=[(56,JjX f rooms left (i + 1)),(5000,rowI 3 (setN left i))] },hp:=[(56,JjX f rooms left (Jak left))] }
def y66 (f:Frm) (rooms:List Span) (left:List Int) (i:Nat):CallSpec:=(r66 f rooms left).Y i
def c66p (f:Frm) (rooms:List Span) (left:List Int) (i:Nat):CallSpec:=Jo6 3 5000 1 none (s78 f (setN left i))
def c66c (f:Frm) (rooms:List Span) (left:List Int) (i:Nat):CallSpec:=s62o left 6120
def c66d (f:Frm) (rooms:List Span) (left:List Int) (i:Nat):CallSpec:=Jo6 3 5000 0 none (s62o (setN left i) 16384)
def c66r (f:Frm) (rooms:List Span) (left:List Int) (i:Nat):CallSpec:=s66 f (rooms.drop 1) (Jaq left (setN left i))
def h66 (f:Frm) (rooms:List Span) (left:List Int) (i:Nat):Hint:={ X:=Nat,M:=fun k=>[(9,.vec 6001),(10,iv (Jdf (setN left i) k)),(40,iv k)],H:=fun k=>[(6001,.vec 3 1 left.length (fun q=>[iv (JbZ left (setN left i) k q)]))],I:=fun k=>k<=left.length,mu:=fun k=>left.length - k,x0:=(0:Nat),nx:=fun k=>k + 1 }
end Go.Ab
namespace Go.Sh
open Go.Ab
variable {f:Frm} {left:List Int} {rooms:List Span}
theorem GoodLeft.nonneg (h:GoodLeft f left):∀ q,q < left.length->0<=left.getD q 0:=fun q hq=>(h.pos q hq).1
theorem GoodLeft.small (h:GoodLeft f left) (hs:Sound f) (q:Nat) (hq:q < left.length):left.getD q 0<=4:=by
 have h1:=h.pos q hq
 have h2:=hs.strip q (by rw [← h.len]; exact hq)
 omega
theorem GoodLeft.short (h:GoodLeft f left) (hs:Sound f):left.length<=3:=by rw [h.len]; exact hs.strips
theorem GoodLeft.set (h:GoodLeft f left) {j:Nat} (hj:j < Jak left) (q:Nat) (hq:q < left.length):0<=(setN left j).getD q 0/\(setN left j).getD q 0<=left.getD q 0:=JpP h.nonneg hj q hq
theorem GoodLeft.isSet (h:GoodLeft f left) {j:Nat} (hj:j < Jak left):isSet f (setN left j)=true:=by
 unfold Go.Sh.isSet
 rw [Jbw,h.len]
 simp only [decide_true,Bool.true_and,List.all_eq_true,List.mem_range]
 intro q hq
 have h1:=h.set hj q (by rw [h.len]; exact hq)
 have h2:=h.pos q (by rw [h.len]; exact hq)
 unfold Jjf Ja1
 simp only [Bool.and_eq_true,decide_eq_true_eq]
 omega
theorem GoodLeft.rest (h:GoodLeft f left) {j:Nat} (hj:j < Jak left):GoodLeft f (Jaq left (setN left j)):=by
 refine ⟨by rw [JbC,h.len],fun q hq => ?_⟩
 rw [JbC] at hq
 rw [Jdg hq]
 have h1:=h.set hj q hq
 have h2:=h.pos q hq
 omega
theorem Jgq (set:List Int) (n:Nat):Jdf set (n + 1)=Jdf set n + set.getD n 0:=by
 unfold Jdf; rw [List.range_succ,List.foldl_append]; rfl
theorem JjY (h:GoodLeft f left) (hs:Sound f) {j:Nat} (hj:j < Jak left):∀ n,n<=left.length->0<=Jdf (setN left j) n/\Jdf (setN left j) n<=4 * n:=by
 intro n
 induction n with
 | zero=>intro _; exact ⟨Int.le_refl _,Int.le_refl _⟩
 | succ n ih =>
  intro hn
  rw [Jgq]
  have h1:=ih (by omega)
  have h2:=h.set hj n (by omega)
  have h3:=h.small hs n (by omega)
  omega
theorem JpQ (h:GoodLeft f left) (hs:Sound f) {j:Nat} (hj:j < Jak left):0<=sumS (setN left j)/\sumS (setN left j)<=12:=by
 have h1:=JjY h hs hj left.length (Nat.le_refl _)
 have h2:=h.short hs
 unfold sumS
 rw [Jbw]
 omega
def Jib (b:Lay) (n:Nat):Prop := ∀ x,b=some x->0<=x.2/\x.2<=12 * n/\x.1.length=n
theorem JpR {r:Span} {g:List Int->Lay} {n:Nat} (h:GoodLeft f left) (hs:Sound f) {b:Lay} {j:Nat} (hj:j < Jak left) (hg:Jib (g (Jaq left (setN left j))) n) (hb:Jib b (n + 1)):Jib (Jfu f r g left b j) (n + 1):=by
 unfold Jfu
 split
 ·cases e:g (Jaq left (setN left j)) with
  | none=>exact hb
  | some x =>
   simp only
   split
   ·intro y hy
    cases hy
    have h1:=hg x e
    have h2:=JpQ h hs hj
    refine ⟨?_,?_,?_⟩
    ·show 0<=sumS _ + x.2; omega
    ·show sumS _ + x.2<=_; omega
    ·show (_ :: x.1).length=_; rw [List.length_cons,h1.2.2]
   ·exact hb
 ·exact hb
theorem JpS {r:Span} {g:List Int->Lay} {m:Nat} (h:GoodLeft f left) (hs:Sound f) (hg:∀ j,j < Jak left->Jib (g (Jaq left (setN left j))) m):∀ n,n<=Jak left->Jib ((List.range n).foldl (Jfu f r g left) none) (m + 1):=by
 intro n
 induction n with
 | zero=>intro _ x hx; cases hx
 | succ n ih =>
  intro hn
  rw [List.range_succ,List.foldl_append]
  exact JpR h hs (by omega) (hg n (by omega)) (ih (by omega))
theorem JpT (hs:Sound f):∀ (rooms:List Span) (left:List Int),GoodLeft f left->Jib (Jav f rooms left) rooms.length:=by
 intro rooms
 induction rooms with
 | nil=>intro left _ x hx; cases hx; exact ⟨Int.le_refl _,Int.le_refl _,rfl⟩
 | cons r rs ih=>intro left h; exact JpS h hs (fun j hj=>ih _ (h.rest hj)) _ (Nat.le_refl _)
theorem JpU {b:Lay} {n:Nat} (h:Jib b n):0<=layM b/\layM b<=12 * n:=by
 cases b with
 | none=>exact ⟨Int.le_refl _,by show (0:Int)<=_; omega⟩
 | some x=>exact ⟨(h x rfl).1,(h x rfl).2.1⟩
theorem Joj {b:Lay} {n:Nat} (h:Jib b n):(layS b).length<=n:=by
 cases b with
 | none=>exact Nat.zero_le _
 | some x=>exact Nat.le_of_eq (h x rfl).2.2
theorem JpV {a b:Bool} (h:(bif a then b else false)=true):a=true:=by cases a <;> first | rfl | cases h
theorem Jhd {j:Nat} (h:(!Ja1 (JaA f (setN left j)) (rooms.getD 0 ⟨0,0⟩).lo (rooms.getD 0 ⟨0,0⟩).hi)=true):Jag f rooms left (j + 1)=Jag f rooms left j:=by
 rw [Jfw]; unfold Jfu; rw [if_neg (by simpa using h)]
def goB (l b:Lay) (m:Int):Bool:=bif !!l.isSome then (bif !b.isSome then true else decide (m + layM l < layM b)) else false
theorem JeP {j:Nat} (h:(!Ja1 (JaA f (setN left j)) (rooms.getD 0 ⟨0,0⟩).lo (rooms.getD 0 ⟨0,0⟩).hi)=false)
  (hc:goB (Jav f (rooms.drop 1) (Jaq left (setN left j))) (Jag f rooms left j) (sumS (setN left j))=true) :
  Jag f rooms left (j + 1)=some (setN left j :: layS (Jav f (rooms.drop 1) (Jaq left (setN left j))),sumS (setN left j) + layM (Jav f (rooms.drop 1) (Jaq left (setN left j)))):=by
 rw [Jfw]; unfold Jfu
 rw [if_pos (by simpa using h)]
 generalize Jav f (rooms.drop 1) (Jaq left (setN left j))=l at hc ⊢
 generalize Jag f rooms left j=b at hc ⊢
 cases l with
 | none=>cases hc
 | some x =>
  simp only
  rw [if_pos]
  ·rfl
  ·cases b with
   | none=>rfl
   | some y=>exact hc
theorem Jok {j:Nat} (h:(!Ja1 (JaA f (setN left j)) (rooms.getD 0 ⟨0,0⟩).lo (rooms.getD 0 ⟨0,0⟩).hi)=false)
  (hc:goB (Jav f (rooms.drop 1) (Jaq left (setN left j))) (Jag f rooms left j) (sumS (setN left j))=false) :
  Jag f rooms left (j + 1)=Jag f rooms left j:=by
 rw [Jfw]; unfold Jfu
 rw [if_pos (by simpa using h)]
 generalize Jav f (rooms.drop 1) (Jaq left (setN left j))=l at hc ⊢
 generalize Jag f rooms left j=b at hc ⊢
 cases l with
 | none=>rfl
 | some x =>
  simp only
  rw [if_neg]
  cases b with
  | none=>cases hc
  | some y =>
   have hc':decide (sumS (setN left j) + x.2 < y.2)=false:=hc
   show ¬ decide (sumS (setN left j) + x.2 < y.2)=true
   rw [hc']; exact Bool.false_ne_true
theorem JbM {i:Nat} {k:Int} {q:Nat} (h:(q:Int)<=k):rowO left i k q=(setN left i).getD q 0:=if_pos h
theorem Jhe {i:Nat} {k:Int} {q:Nat} (h:¬ (q:Int)<=k):rowO left i k q=0:=if_neg h
theorem Jol (h:GoodLeft f left) {i n:Nat} (hi:i < Jak left) (hn:∀ q,left.length - n<=q->q < left.length->(setN left i).getD q 0=left.getD q 0) (he:left.length<=n):i + 1=Jak left :=
 Jia h.nonneg hi (fun q hq=>hn q (by omega) hq)
end Go.Sh
