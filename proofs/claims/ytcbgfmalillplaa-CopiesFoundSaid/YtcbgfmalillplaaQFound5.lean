/- CopiesFound returns true for every run and two numbers, and leaves what it was handed as it was. No condition. -/
import Derived.Test.YtcbgfmalillplaaQFound4
import Derived.Deep.Slices
import Derived.ChangeShapes
import Derived.Carry
import Derived.OpenShut
import Derived.SizedLaws
import Derived.Test.YtcbgfmalillplaaRows
import Derived.ProofKit
import Derived.JoinedOf
set_option linter.all false
set_option linter.deprecated false
namespace Go.Ab
open Go Go.RowKit
def rnC (l:List (Nat × Nat)):AV->AV
 | .vec b => .vec (renI l b)
 | .ptr b p => .ptr (renI l b) p
 | v=>v
def rnV (l:List (Nat × Nat)):AV->AV
 | .agg cs => .agg (cs.map (rnC l))
 | .clo f cs => .clo f (cs.map (rnC l))
 | v=>rnC l v
def rnR (l:List (Nat × Nat)):AV->AV
 | .tup vs => .tup (vs.map (rnV l))
 | v=>rnV l v
def rnB (l:List (Nat × Nat)):OB->OB
 | .cells t cs => .cells t (cs.map (rnC l))
 | .vecx t sz n f j fj => .vecx t sz n f j (fj.map (rnC l))
 | ob=>ob
def kC (ks:List Nat):AV->Bool
 | .vec b=>ks.contains b
 | .ptr b _=>ks.contains b
 | .agg _=>false
 | .clo _ _=>false
 | .tup _=>false
 | v=>(ids v).isEmpty
def kV (ks:List Nat):AV->Bool
 | .agg cs=>cs.all (kC ks)
 | .clo _ cs=>cs.all (kC ks)
 | v=>kC ks v
def kR (ks:List Nat):AV->Bool
 | .tup vs=>vs.all (kV ks)
 | v=>kV ks v
def kB (ks:List Nat):OB->Bool
 | .cells _ cs=>cs.all (kC ks)
 | .vec _ _ _ _=>true
 | .vecx _ _ _ _ _ fj=>fj.all (kC ks)
 | _=>false
structure Rn (l:List (Nat × Nat)) (ks:List Nat) (E F:Env):Prop where
 M:∀ b o,E.M b=some o->F.M b=some o
 fns:F.fns=E.fns
 same:∀ c,c ∈ ks->F.blk (renI l c)=E.blk c/\F.hdr (renI l c)=E.hdr c
section
variable {l:List (Nat × Nat)} {ks:List Nat} {E F:Env}
theorem rnC_rel (hr:Rn l ks E F) {v:AV} {u:Value} (ho:kC ks v=true) (h:Rel E true v u):Rel F true (rnC l v) u:=by
 cases v with
 | vec b =>
  have hm:b ∈ ks:=by simpa [kC] using ho
  cases h with
  | vec _ hh h1=>exact .vec _ (by rw [(hr.same b hm).2]; exact hh) h1
 | ptr b p =>
  have hm:b ∈ ks:=by simpa [kC] using ho
  cases h with
  | ptr _ _ hh=>exact .ptr _ p (by rw [(hr.same b hm).1]; exact hh)
 | agg cs=>cases ho
 | clo f cs=>cases ho
 | tup cs=>cases ho
 | _ =>
  simp only [rnC]
  simp only [kC,List.isEmpty_iff] at ho
  exact Rel.trim hr.M hr.fns h (fun _=>ho)
theorem rnC_inv (hM:F.M=E.M) (hf:F.fns=E.fns) (hs:∀ c,c ∈ ks->F.blk (renI l c)=E.blk c/\F.hdr (renI l c)=E.hdr c) {v:AV} {u:Value} (ho:kC ks v=true) (h:Rel F true (rnC l v) u):Rel E true v u:=by
 cases v with
 | vec b =>
  have hm:b ∈ ks:=by simpa [kC] using ho
  cases h with
  | vec _ hh h1=>exact .vec _ (by rw [← (hs b hm).2]; exact hh) h1
 | ptr b p =>
  have hm:b ∈ ks:=by simpa [kC] using ho
  cases h with
  | ptr _ _ hh=>exact .ptr _ p (by rw [← (hs b hm).1]; exact hh)
 | agg cs=>cases ho
 | clo f cs=>cases ho
 | tup cs=>cases ho
 | _ =>
  simp only [rnC] at h
  simp only [kC,List.isEmpty_iff] at ho
  exact Rel.trim (fun b o e=>by rw [← hM]; exact e) hf.symm h (fun _=>ho)
theorem rnL_rel (hr:Rn l ks E F):∀ {cs:List AV} {us:List Value},cs.all (kC ks)=true->RelL E true cs us->RelL F true (cs.map (rnC l)) us:=by
 intro cs
 induction cs with
 | nil=>intro us _ h; cases h; exact .nil
 | cons c cs ih =>
  intro us ho h
  simp only [List.all_cons,Bool.and_eq_true] at ho
  cases h with
  | cons h h1 hs=>exact .cons (rnC_rel hr ho.1 h) h1 (ih ho.2 hs)
  | arr g hg h hs=>exact .arr g hg (fun i hi=>(h i hi).trim hr.M hr.fns) (ih ho.2 hs)
theorem rnL_inv (hM:F.M=E.M) (hf:F.fns=E.fns) (hs:∀ c,c ∈ ks->F.blk (renI l c)=E.blk c/\F.hdr (renI l c)=E.hdr c):∀ {cs:List AV} {us:List Value},cs.all (kC ks)=true->RelL F true (cs.map (rnC l)) us->RelL E true cs us:=by
 intro cs
 induction cs with
 | nil=>intro us _ h; cases h; exact .nil
 | cons c cs ih =>
  intro us ho h
  simp only [List.all_cons,Bool.and_eq_true] at ho
  rw [List.map_cons] at h
  generalize hz:rnC l c=z at h
  cases h with
  | cons h h1 hs'=>subst hz; exact .cons (rnC_inv hM hf hs ho.1 h) h1 (ih ho.2 hs')
  | arr g hg h hs' =>
   rename_i sz n f us
   have:c = .arr sz n f:=by cases c <;> simp only [rnC] at hz <;> first | exact hz | cases hz
   subst this
   exact .arr g hg (fun i hi=>(h i hi).trim (fun b o e=>by rw [← hM]; exact e) hf.symm) (ih ho.2 hs')
theorem getD_map_any (g:AV->AV) (hg:g .any = .any) (vs:List AV) (k:Nat):(vs.map g).getD k .any=g (vs.getD k .any):=by
 by_cases hlt:k < vs.length
 ·simp [List.getD,List.getElem?_eq_getElem hlt]
 ·rw [List.getD_eq_getElem?_getD,List.getElem?_eq_none (by simpa using hlt),List.getD_eq_getElem?_getD,List.getElem?_eq_none (by omega)]
  exact hg.symm
theorem all_getD {p:AV->Bool} (hp:p .any=true) {vs:List AV} (h:vs.all p=true) (k:Nat):p (vs.getD k .any)=true:=by
 by_cases hlt:k < vs.length
 ·rw [List.all_eq_true] at h
  have:vs.getD k .any=vs[k]:=by simp [List.getD,List.getElem?_eq_getElem hlt]
  rw [this]; exact h _ (List.getElem_mem hlt)
 ·rw [List.getD_eq_getElem?_getD,List.getElem?_eq_none (by omega)]; exact hp
theorem rnV_rel (hr:Rn l ks E F) {v:AV} {u:Value} (ho:kV ks v=true) (h:Rel E true v u):Rel F true (rnV l v) u:=by
 cases v with
 | agg cs=>cases h with | agg hl=>exact .agg (rnL_rel hr ho hl)
 | clo f cs =>
  cases h with
  | clo _ hl hk=>exact .clo f (by rw [List.length_map]; exact hl) fun k=>by rw [getD_map_any _ rfl]; exact rnC_rel hr (all_getD (p:=kC ks) rfl ho k) (hk k)
 | _ =>
  simp only [rnV]
  simp only [kV] at ho
  exact rnC_rel hr ho h
theorem rnV_inv (hM:F.M=E.M) (hf:F.fns=E.fns) (hs:∀ c,c ∈ ks->F.blk (renI l c)=E.blk c/\F.hdr (renI l c)=E.hdr c) {v:AV} {u:Value} (ho:kV ks v=true) (h:Rel F true (rnV l v) u):Rel E true v u:=by
 cases v with
 | agg cs=>cases h with | agg hl=>exact .agg (rnL_inv hM hf hs ho hl)
 | clo f cs =>
  cases h with
  | clo _ hl hk=>exact .clo f (by rw [List.length_map] at hl; exact hl) fun k=>by have:=hk k; rw [getD_map_any _ rfl] at this; exact rnC_inv hM hf hs (all_getD (p:=kC ks) rfl ho k) this
 | _ =>
  simp only [rnV] at h
  simp only [kV] at ho
  exact rnC_inv hM hf hs ho h
theorem rnR_rel (hr:Rn l ks E F) {v:AV} {u:Value} (ho:kR ks v=true) (h:Rel E true v u):Rel F true (rnR l v) u:=by
 cases v with
 | tup cs =>
  cases h with
  | tup hl hk=>exact .tup (by rw [List.length_map]; exact hl) fun k=>by rw [getD_map_any _ rfl]; exact rnV_rel hr (all_getD (p:=kV ks) rfl ho k) (hk k)
 | _ =>
  simp only [rnR]
  simp only [kR] at ho
  exact rnV_rel hr ho h
theorem rnB_inv {C C':Ctx} {w:World} {c:Nat} {ob:OB} (hM:F.M=E.M) (hf:F.fns=E.fns) (hs:∀ c,c ∈ ks->F.blk (renI l c)=E.blk c/\F.hdr (renI l c)=E.hdr c) (hav:∀ k,C.avail k->C'.avail k) (hc:c ∈ ks) (ho:kB ks ob=true) (h:OwnOB C F w (renI l c) (rnB l ob)):OwnOB C' E w c ob:=by
 have hb:=(hs c hc).1
 have hh:=(hs c hc).2
 have tr:∀ {cs:List AV} {us:List Value},RelL F false cs us->RelL E false cs us:=fun h=>h.trim (fun b o e=>by rw [← hM]; exact e) hf.symm
 cases ob with
 | cells t cs =>
  obtain ⟨k,us,h1,h2,h3,h4,h5⟩:=h
  exact ⟨k,us,by rw [← hb]; exact h1,hav k h2,by rw [← hM]; exact h3,h4,rnL_inv hM hf hs ho h5⟩
 | vec t sz n f =>
  obtain ⟨hd,g,h1,h2,h3,h4,h5,h6⟩:=h
  exact ⟨hd,g,by rw [← hh]; exact h1,h2,h3,fun i hi=>tr (h4 i hi),by rw [← hb]; exact h5,fun k hk=>⟨hav k (h6 k hk).1,by rw [← hM]; exact (h6 k hk).2⟩⟩
 | vecx t sz n f j fj =>
  obtain ⟨hd,g,h1,h2,h3,h4,h7,h5,h6⟩:=h
  exact ⟨hd,g,by rw [← hh]; exact h1,h2,h3,fun i hi hij=>tr (h4 i hi hij),fun hj=>rnL_inv hM hf hs ho (h7 hj),by rw [← hb]; exact h5,fun k hk=>⟨hav k (h6 k hk).1,by rw [← hM]; exact (h6 k hk).2⟩⟩
 | _=>cases ho
theorem rnB_own {C C':Ctx} {w:World} {c:Nat} {ob:OB} (hr:Rn l ks E F) (hMM:∀ b,E.M b=none->F.M b=none) (hav:∀ k,C.avail k->C'.avail k) (hc:c ∈ ks) (ho:kB ks ob=true) (h:OwnOB C E w c ob):OwnOB C' F w (renI l c) (rnB l ob):=by
 have hb:=(hr.same c hc).1
 have hh:=(hr.same c hc).2
 cases ob with
 | cells t cs =>
  obtain ⟨k,us,h1,h2,h3,h4,h5⟩:=h
  exact ⟨k,us,by rw [hb]; exact h1,hav k h2,hMM k h3,h4,rnL_rel hr ho h5⟩
 | vec t sz n f =>
  obtain ⟨hd,g,h1,h2,h3,h4,h5,h6⟩:=h
  exact ⟨hd,g,by rw [hh]; exact h1,h2,h3,fun i hi=>(h4 i hi).trim hr.M hr.fns,by rw [hb]; exact h5,fun k hk=>⟨hav k (h6 k hk).1,hMM k (h6 k hk).2⟩⟩
 | vecx t sz n f j fj =>
  obtain ⟨hd,g,h1,h2,h3,h4,h7,h5,h6⟩:=h
  exact ⟨hd,g,by rw [hh]; exact h1,h2,h3,fun i hi hij=>(h4 i hi hij).trim hr.M hr.fns,fun hj=>rnL_rel hr ho (h7 hj),by rw [hb]; exact h5,fun k hk=>⟨hav k (h6 k hk).1,hMM k (h6 k hk).2⟩⟩
 | _=>cases ho
end
structure IoSpec where
 args:List AV
 pre:Prop:=True
 fnok:Env->Prop:=fun _=>True
 hin:List (Nat × OB):=[]
 res:AV
 hout:List (Nat × OB):=[]
def IoSpec.at (s:IoSpec) (l:List (Nat × Nat)):CallSpec:={ args:=s.args.map (rnV l),pre:=s.pre,fnok:=s.fnok,hin:=s.hin.map (fun p=>(renI l p.1,rnB l p.2)),res:=rnR l s.res,hout:=s.hout.map (fun p=>(renI l p.1,rnB l p.2)) }
def IoSpec.ok (s:IoSpec) (N:Nat) (ks:List Nat):Bool :=
 noDup ks && noDup (s.hin.map (·.1)) && noDup (s.hout.map (·.1)) && s.args.all (kV (s.hin.map (·.1))) && s.hin.all (fun p=>kB (s.hin.map (·.1)) p.2 && ks.contains p.1 && decide (p.1 < N)) && kR (s.hout.map (·.1)) s.res && s.hout.all (fun p=>kB (s.hout.map (·.1)) p.2 && ks.contains p.1)
theorem renI_inj {l:List (Nat × Nat)} (h1:(l.map (·.1)).Nodup) (h2:(l.map (·.2)).Nodup) {a b:Nat} (ha:a ∈ l.map (·.1)) (hb:b ∈ l.map (·.1)) (e:renI l a=renI l b):a=b:=by
 have ma:=renI_mem ha
 have mb:=renI_mem hb
 have ua:=unI_of h2 ma
 have ub:=unI_of h2 mb
 rw [e,ub] at ua
 cases ua; rfl
theorem heap_of_map {l:List (Nat × Nat)} {hs:List (Nat × OB)} (h:∀ a b,a ∈ hs.map (·.1)->b ∈ hs.map (·.1)->renI l a=renI l b->a=b) {c:Nat} {ob:OB} (hc:Heap.of hs c=some ob):Heap.of (hs.map fun p=>(renI l p.1,rnB l p.2)) (renI l c)=some (rnB l ob):=by
 induction hs with
 | nil=>cases hc
 | cons p r ih =>
  rw [Heap.of_cons] at hc
  rw [List.map_cons,Heap.of_cons]
  by_cases e:p.1=c
  ·rw [if_pos e] at hc
   cases hc
   rw [if_pos (by rw [e])]
  ·rw [if_neg e] at hc
   have hm:c ∈ r.map (·.1):=List.mem_map_of_mem (f:=fun x:Nat × OB=>x.1) (Heap.of_mem hc)
   rw [if_neg (fun e'=>e (h p.1 c (by simp) (by simp only [List.map_cons,List.mem_cons]; exact .inr hm) e'))]
   exact ih (fun a b ha hb=>h a b (List.mem_cons_of_mem _ ha) (List.mem_cons_of_mem _ hb)) hc
theorem heap_of_map_inv {l:List (Nat × Nat)} {hs:List (Nat × OB)} {i:Nat} {ob:OB} (hi:Heap.of (hs.map fun p=>(renI l p.1,rnB l p.2)) i=some ob):∃ c ob0,(c,ob0) ∈ hs/\i=renI l c/\ob=rnB l ob0:=by
 obtain ⟨p,hp,he⟩:=List.mem_map.1 (Heap.of_mem hi)
 cases he
 exact ⟨p.1,p.2,hp,rfl,rfl⟩
theorem triple_io {P:Program} {f:FuncId} {fn:Func} {c:Code} {T:Tab} (hf:P.funcs[f]? = some fn) (hb:fn.body=some c) (hcall:Callable P f) (hT:Tab.ok P T) (s:IoSpec) (N:Nat) (l:List (Nat × Nat))
  (hok:s.ok N (l.map (·.1))=true) (hnd:(l.map (·.2)).Nodup) (hn:s.args.length<=fn.ntmps) (hfn:∀ E E':Env,E'.M=E.M->E'.fns=E.fns->s.fnok E->s.fnok E')
  (body:s.pre -> ∀ C:Ctx,C.P=P->s.fnok C.E0->(∀ j,N<=j->C.E0.blk j=none/\C.E0.hdr j=none)->SWP C fn.ntmps c (RetO C fn.ntmps T fn.results.toList s.res s.hout) ⟨argsTm s.args 0,s.hin,N⟩) :
  Triple P f (s.at l):=by
 simp only [IoSpec.ok,Bool.and_eq_true,List.all_eq_true,List.contains_eq_mem,decide_eq_true_eq] at hok
 obtain ⟨⟨⟨⟨⟨⟨o1,o2⟩,o3⟩,o4⟩,o5⟩,o6⟩,o7⟩:=hok
 have hkd:(l.map (·.1)).Nodup:=noDup_nodup o1
 have hargs:s.args.all (kV (s.hin.map (·.1)))=true:=by rw [List.all_eq_true]; exact o4
 have hik:∀ a,a ∈ s.hin.map (·.1)->a ∈ l.map (·.1)/\a < N:=by
  intro a ha
  obtain ⟨p,hp,rfl⟩:=List.mem_map.1 ha
  exact ⟨(o5 p hp).1.2,(o5 p hp).2⟩
 have hok':∀ a,a ∈ s.hout.map (·.1)->a ∈ l.map (·.1):=by
  intro a ha
  obtain ⟨p,hp,rfl⟩:=List.mem_map.1 ha
  exact (o7 p hp).2
 have inj:∀ a b,a ∈ l.map (·.1)->b ∈ l.map (·.1)->renI l a=renI l b->a=b:=fun a b ha hb e=>renI_inj hkd hnd ha hb e
 refine ⟨hcall,fun hpre E w vs hfnok hh hlen hrel hfresh => ?_⟩
 let hinR:=s.hin.map (fun p=>(renI l p.1,rnB l p.2))
 let E0:Env:={ E with blk:=fun j=>if j ∈ s.hin.map (·.1) then E.blk (renI l j) else none,hdr:=fun j=>if j ∈ s.hin.map (·.1) then E.hdr (renI l j) else none }
 have hs0:∀ c,c ∈ s.hin.map (·.1)->E.blk (renI l c)=E0.blk c/\E.hdr (renI l c)=E0.hdr c:=by
  intro c hc
  exact ⟨(if_pos hc).symm,(if_pos hc).symm⟩
 let C:Ctx:=⟨P,w,E0,(calleeCtx P E w hinR).avail,fun _ h => .inl h⟩
 have hok0:HeapOK C E0 (Heap.of s.hin) w:=by
  refine ⟨rfl,rfl,rfl,Nat.le_refl _,fun _ _=>rfl,fun b o h=>hh.mem b o h,Env.le.refl _,fun b o h => .inl h,fun i ob h => ?_,fun i j x hij hi hj hix hjx => ?_⟩
  ·have hm:i ∈ s.hin.map (·.1):=List.mem_map_of_mem (f:=fun x:Nat × OB=>x.1) (Heap.of_mem h)
   have ho:=hh.own (renI l i) (rnB l ob) (heap_of_map (fun a b ha hb=>inj a b (hik a ha).1 (hik b hb).1) h)
   exact rnB_inv (C:=calleeCtx P E w hinR) (C':=C) (E:=E0) (F:=E) rfl rfl hs0 (fun _ h=>h) hm (o5 _ (Heap.of_mem h)).1.1 ho
  ·have get:∀ i,Heap.of s.hin i ≠ none -> ∃ ob,Heap.of s.hin i=some ob:=fun i h=>by
    cases e:Heap.of s.hin i with
    | none=>exact absurd e h
    | some ob=>exact ⟨ob,rfl⟩
   obtain ⟨oi,ei⟩:=get i hi
   obtain ⟨oj,ej⟩:=get j hj
   have mi:i ∈ s.hin.map (·.1):=List.mem_map_of_mem (f:=fun x:Nat × OB=>x.1) (Heap.of_mem ei)
   have mj:j ∈ s.hin.map (·.1):=List.mem_map_of_mem (f:=fun x:Nat × OB=>x.1) (Heap.of_mem ej)
   have hR:=fun a b (ha:a ∈ s.hin.map (·.1)) (hb:b ∈ s.hin.map (·.1))=>inj a b (hik a ha).1 (hik b hb).1
   refine hh.sep (renI l i) (renI l j) x (fun e=>hij (hR i j mi mj e)) ?_ ?_ (by rw [(hs0 i mi).1]; exact hix) (by rw [(hs0 j mj).1]; exact hjx)
   ·show Heap.of hinR _ ≠ none
    rw [heap_of_map hR ei]; simp
   ·show Heap.of hinR _ ≠ none
    rw [heap_of_map hR ej]; simp
 have hl':vs.length=s.args.length:=by rw [hlen]; exact List.length_map _
 have htm:∀ t,Rel E0 true (look (argsTm s.args 0) t) ((vs.toArray ++ Array.replicate (fn.ntmps - vs.toArray.size) undef).getD t undef):=by
  intro t
  rw [look_args,if_pos (Nat.zero_le _),Nat.sub_zero]
  rcases Nat.lt_or_ge t vs.length with ht | ht
  ·have h1:(vs.toArray ++ Array.replicate (fn.ntmps - vs.toArray.size) undef).getD t undef=vs.getD t undef:=by
    simp only [Array.getD_eq_getD_getElem?,List.getD_eq_getElem?_getD]
    rw [Array.getElem?_append_left (by simpa using ht)]
    simp
   rw [h1]
   have h2:=hrel t
   rw [show (s.at l).args=s.args.map (rnV l) from rfl,getD_map_any _ rfl] at h2
   exact rnV_inv (E:=E0) (F:=E) rfl rfl hs0 (all_getD (p:=kV (s.hin.map (·.1))) rfl hargs t) h2
  ·rw [List.getD_eq_getElem?_getD,List.getElem?_eq_none (by omega)]
   exact .any _
 have hnone:∀ j,N<=j->E0.blk j=none/\E0.hdr j=none:=by
  intro j hj
  have:¬ j ∈ s.hin.map (·.1):=fun h=>by have:=(hik j h).2; omega
  exact ⟨if_neg this,if_neg this⟩
 have hsat:Sat C E0 fn.ntmps ⟨argsTm s.args 0,s.hin,N⟩ w { tmps:=vs.toArray ++ Array.replicate (fn.ntmps - vs.toArray.size) undef,defers:=[] } :=
  ⟨⟨hok0,htm,rfl,by simp; omega⟩,fun j hj=>hnone j hj⟩
 have hsw:=body hpre C rfl (hfn E E0 rfl rfl hfnok) hnone E0 w _ hsat
 refine calls_of_wp hf hb (wp_mono hsw ?_)
 rintro e a' w' ⟨x,E1,st1,rfl,hs1,hk1⟩
 have fin:(∃ st2,Ent C fn.ntmps st1 st2/\retO T fn.results.toList st2 s.res s.hout)->a'.defers = [] /\ ∃ v,(results fn a'.tmps).run P w' = .ok v w'/\CallPost P (s.at l) E w (.returned v) w':=by
  rintro ⟨st2,hent,hq⟩
  obtain ⟨E',hs'⟩:=hent E1 w' a' hs1
  refine ⟨hs'.ok.defers,?_⟩
  unfold retO at hq
  split at hq
  ·rename_i q rvs hrv
   obtain ⟨hq0,hres0,hho⟩:=hq
   obtain ⟨us,hus,hul,hur⟩:=resVals_run (C:=C) hT hs' _ q rvs hrv hq0
   refine ⟨_,results_run (P:=P) hus,?_⟩
   have hrv':Rel E' true (retAV rvs) (if h:us.length=1 then us[0] else .tuple us.toArray):=by
    cases rvs with
    | nil =>
     have:us = []:=List.eq_nil_of_length_eq_zero hul
     subst this
     exact .tup rfl (fun k=>hur k)
    | cons v r =>
     cases r with
     | nil =>
      have hul1:us.length=1:=hul
      rw [dif_pos hul1]
      have:=hur 0
      simp only [List.getD_cons_zero] at this
      rw [List.getD_eq_getElem?_getD,List.getElem?_eq_getElem (by omega)] at this
      exact this
     | cons v2 r =>
      have hne:¬ us.length=1:=by rw [hul]; simp
      rw [dif_neg hne]
      exact .tup (cs:=v :: v2 :: r) hul hur
   rw [hres0] at hrv'
   have hle:=hs'.ok.heap.le
   let lo:=l.filter fun p=>(s.hout.map (·.1)).contains p.1
   have hlod:(lo.map (·.2)).Nodup:=(List.Sublist.map _ List.filter_sublist).nodup hnd
   have hlo:∀ c,c ∈ s.hout.map (·.1)->unI lo (renI l c)=some c:=by
    intro c hc
    refine unI_of hlod ?_
    exact List.mem_filter.2 ⟨renI_mem (hok' c hc),by simpa using hc⟩
   have hloi:∀ j c,unI lo j=some c->c ∈ s.hout.map (·.1)/\renI l c=j:=by
    intro j c h
    have hm:=unI_mem h
    obtain ⟨h1,h2⟩:=List.mem_filter.1 hm
    have hc:c ∈ s.hout.map (·.1):=by simpa using h2
    refine ⟨hc,?_⟩
    have ma:=renI_mem (hok' c hc)
    have key:∀ {l:List (Nat × Nat)},(l.map (·.1)).Nodup -> ∀ {c a b:Nat},(c,a) ∈ l->(c,b) ∈ l->a=b:=by
     intro l
     induction l with
     | nil=>intro _ c a b h; cases h
     | cons p r ih =>
      intro hn c a b ha hb
      rw [List.map_cons,List.nodup_cons] at hn
      cases ha with
      | head =>
       cases hb with
       | head=>rfl
       | tail _ hb=>exact absurd (List.mem_map_of_mem (f:=fun x:Nat × Nat=>x.1) hb) hn.1
      | tail _ ha =>
       cases hb with
       | head=>exact absurd (List.mem_map_of_mem (f:=fun x:Nat × Nat=>x.1) ha) hn.1
       | tail _ hb=>exact ih hn.2 ha hb
    exact key hkd ma h1
   let F:Env:={ E with M:=E'.M,blk:=fun j=>match unI lo j with | some c=>E'.blk c | none=>E.blk j,hdr:=fun j=>match unI lo j with | some c=>E'.hdr c | none=>E.hdr j }
   have Fb:∀ j c,unI lo j=some c->F.blk j=E'.blk c/\F.hdr j=E'.hdr c:=by
    intro j c h
    constructor
    ·show (match unI lo j with | some c=>E'.blk c | none=>E.blk j)=_
     rw [h]
    ·show (match unI lo j with | some c=>E'.hdr c | none=>E.hdr j)=_
     rw [h]
   have Fn:∀ j,unI lo j=none->F.blk j=E.blk j/\F.hdr j=E.hdr j:=by
    intro j h
    constructor
    ·show (match unI lo j with | some c=>E'.blk c | none=>E.blk j)=_
     rw [h]
    ·show (match unI lo j with | some c=>E'.hdr c | none=>E.hdr j)=_
     rw [h]
   have hfns:F.fns=E'.fns:=by
    show E.fns=E'.fns
    exact (hle.fns.symm:E0.fns=E'.fns)
   have hren:Rn l (s.hout.map (·.1)) E' F:=⟨fun b o h=>h,hfns,fun c hc=>Fb _ _ (hlo c hc)⟩
   have lF:E.le F:=by
    refine ⟨fun b o h=>hle.M b o h,fun j k h => ?_,fun j u h => ?_,rfl⟩
    ·cases e:unI lo j with
     | none=>rw [(Fn j e).1]; exact h
     | some c =>
      rw [(Fb j c e).1]
      obtain ⟨hc,rfl⟩:=hloi j c e
      by_cases hi:c ∈ s.hin.map (·.1)
      ·exact hle.blk c k (by rw [← (hs0 c hi).1]; exact h)
      ·exfalso
       obtain ⟨p,hp,rfl⟩:=List.mem_map.1 hc
       have:=hfresh (renI l p.1,rnB l p.2) (List.mem_map_of_mem (f:=fun p:Nat × OB=>(renI l p.1,rnB l p.2)) hp) (fun q hq e=>by
        obtain ⟨p2,hp2,rfl⟩:=List.mem_map.1 hq
        have hm2:p2.1 ∈ s.hin.map (·.1):=List.mem_map_of_mem (f:=fun x:Nat × OB=>x.1) hp2
        exact hi (by rw [← inj _ _ (hik _ hm2).1 (hok' _ hc) e]; exact hm2))
       rw [this.1] at h; cases h
    ·cases e:unI lo j with
     | none=>rw [(Fn j e).2]; exact h
     | some c =>
      rw [(Fb j c e).2]
      obtain ⟨hc,rfl⟩:=hloi j c e
      by_cases hi:c ∈ s.hin.map (·.1)
      ·exact hle.hdr c u (by rw [← (hs0 c hi).2]; exact h)
      ·exfalso
       obtain ⟨p,hp,rfl⟩:=List.mem_map.1 hc
       have:=hfresh (renI l p.1,rnB l p.2) (List.mem_map_of_mem (f:=fun p:Nat × OB=>(renI l p.1,rnB l p.2)) hp) (fun q hq e=>by
        obtain ⟨p2,hp2,rfl⟩:=List.mem_map.1 hq
        have hm2:p2.1 ∈ s.hin.map (·.1):=List.mem_map_of_mem (f:=fun x:Nat × OB=>x.1) hp2
        exact hi (by rw [← inj _ _ (hik _ hm2).1 (hok' _ hc) e]; exact hm2))
       rw [this.2] at h; cases h
   have h':=hs'.ok.heap
   refine ⟨_,F,rfl,?_,rnR_rel hren o6 hrv',fun j hj => ?_⟩
   ·refine ⟨h'.os,h'.tape,h'.output,h'.size,fun x hx=>h'.pres x hx,fun x o h=>h'.mem x o h,lF,fun x o h=>h'.ext x o h,fun i ob hi => ?_,fun i j y hij hi hj hiy hjy => ?_⟩
    ·obtain ⟨c,ob0,hm,rfl,rfl⟩:=heap_of_map_inv hi
     have hc:c ∈ s.hout.map (·.1):=List.mem_map_of_mem (f:=fun x:Nat × OB=>x.1) hm
     exact rnB_own (C:=C) (C':=calleeCtx P E w hinR) hren (fun _ h=>h) (fun _ h=>h) hc (o7 _ hm).1 (h'.own c ob0 (hoIn_mem hho _ hm))
    ·have get:∀ i,Heap.of (s.at l).hout i ≠ none->F.blk i=some y -> ∃ c,i=renI l c/\Heap.of st2.hp c ≠ none/\E'.blk c=some y:=by
      intro i hi hiy
      cases e:Heap.of (s.at l).hout i with
      | none=>exact absurd e hi
      | some ob =>
       obtain ⟨c,ob0,hm,rfl,rfl⟩:=heap_of_map_inv e
       have hc:c ∈ s.hout.map (·.1):=List.mem_map_of_mem (f:=fun x:Nat × OB=>x.1) hm
       refine ⟨c,rfl,by rw [hoIn_mem hho _ hm]; simp,?_⟩
       rw [← (Fb _ _ (hlo c hc)).1]; exact hiy
     obtain ⟨c1,rfl,n1,k1⟩:=get i hi hiy
     obtain ⟨c2,rfl,n2,k2⟩:=get j hj hjy
     exact h'.sep c1 c2 y (fun e=>hij (by rw [e])) n1 n2 k1 k2
   ·refine Fn j ?_
    cases e:unI lo j with
    | none=>rfl
    | some c =>
     obtain ⟨hc,rfl⟩:=hloi j c e
     obtain ⟨p,hp,rfl⟩:=List.mem_map.1 hc
     exact absurd rfl (hj (renI l p.1,rnB l p.2) (List.mem_map_of_mem (f:=fun p:Nat × OB=>(renI l p.1,rnB l p.2)) hp))
  ·exact hq.elim
 cases x with
 | normal=>exact fin hk1
 | ret=>exact fin hk1
 | exit id=>exact hk1.elim
section
variable {C:Ctx} {nt:Nat} {st:ASt}
theorem ent_n {st2:ASt} (N:Nat) (hE0:∀ j,N<=j->C.E0.blk j=none/\C.E0.hdr j=none) (bs:List Nat) (mp:List (Nat × Src)) (kt kh:List Nat) (q:Prop) (hb:entB N st2 bs mp=true) (he:entK st st2 bs mp kt kh=q) (hq:q):Ent C nt st st2 :=
 ent_of hE0 bs mp hb (entK_Q (by rw [he]; exact hq))
end
end Go.Ab
namespace Go.Sh
def idxW (l:List WayS) (P:WayS->Bool):Int:=match l.findIdx? P with | some i=>i | none => -1
theorem idxW_found {l:List WayS} {P:WayS->Bool} {x:Nat} (hx:x < l.length) (h:∀ j,j < x->P (l.getD j default)=false) (hp:P (l.getD x default)=true):idxW l P=x:=by
 have:l.findIdx? P=some x:=by
  rw [List.findIdx?_eq_some_iff_getElem]
  refine ⟨hx,by rw [← Go.Ab.getD_lt l default hx]; exact hp,fun j hj => ?_⟩
  rw [← Go.Ab.getD_lt l default (by omega),h j hj]; simp
 simp [idxW,this]
theorem idxW_none {l:List WayS} {P:WayS->Bool} (h:∀ j,j < l.length->P (l.getD j default)=false):idxW l P = -1:=by
 have:l.findIdx? P=none:=by
  rw [List.findIdx?_eq_none_iff]
  intro x hx
  have h1:=Go.Ab.any_idx l default P h
  rw [List.any_eq_false] at h1
  simpa using h1 x hx
 simp [idxW,this]
theorem idxW_spec (l:List WayS) (P:WayS->Bool):(idxW l P = -1 /\ ∀ w,w ∈ l->P w=false) ∨ ∃ i:Nat,idxW l P=i/\i < l.length/\P (l.getD i default)=true /\ ∀ j,j < i->P (l.getD j default)=false:=by
 unfold idxW
 cases e:l.findIdx? P with
 | none =>
  left
  rw [List.findIdx?_eq_none_iff] at e
  exact ⟨rfl,e⟩
 | some i =>
  right
  rw [List.findIdx?_eq_some_iff_getElem] at e
  obtain ⟨h,h1,h2⟩:=e
  refine ⟨i,rfl,h,by rw [Go.Ab.getD_lt l default h]; exact h1,fun j hj => ?_⟩
  rw [Go.Ab.getD_lt l default (by omega)]
  simpa using h2 j hj
def keptW (l:List WayS) (P:WayS->Bool) (n:Nat):List WayS:=(l.take n).filter fun w => !P w
def delW (l:List WayS) (P:WayS->Bool):List WayS:=l.filter fun w => !P w
theorem keptW_t {l:List WayS} {P:WayS->Bool} {n:Nat} (h:n < l.length) (hp:P (l.getD n default)=true):keptW l P (n + 1)=keptW l P n:=by
 unfold keptW; rw [Go.Ab.take_succ _ default h,List.filter_append,List.filter_cons_of_neg (by rw [hp]; exact Bool.false_ne_true),List.filter_nil,List.append_nil]
theorem keptW_f {l:List WayS} {P:WayS->Bool} {n:Nat} (h:n < l.length) (hp:P (l.getD n default)=false):keptW l P (n + 1)=keptW l P n ++ [l.getD n default]:=by
 unfold keptW; rw [Go.Ab.take_succ _ default h,List.filter_append,List.filter_cons_of_pos (by rw [hp]; rfl)]; rfl
theorem keptW_len (l:List WayS) (P:WayS->Bool) (n:Nat):(keptW l P n).length<=n:=by
 unfold keptW; exact Nat.le_trans (List.length_filter_le _ _) (by rw [List.length_take]; omega)
theorem keptW_full {l:List WayS} {P:WayS->Bool} {n:Nat} (h:l.length<=n):keptW l P n=delW l P:=by
 unfold keptW delW; rw [List.take_of_length_le h]
theorem keptW_first {l:List WayS} {P:WayS->Bool}:∀ {n:Nat},n<=l.length->(∀ j,j < n->P (l.getD j default)=false)->keptW l P n=l.take n:=by
 intro n
 induction n with
 | zero=>intro _ _; rfl
 | succ n ih=>intro h h1; rw [keptW_f (by omega) (h1 n (by omega)),ih (by omega) (fun j hj=>h1 j (by omega)),Go.Ab.take_succ _ default (by omega)]
def rowW (l:List WayS) (P:WayS->Bool) (n q:Nat):WayS:=if q < (keptW l P n).length then (keptW l P n).getD q default else l.getD q default
def firstD (l:List WayS) (P:WayS->Bool):Nat:=(idxW l P).toNat
theorem first_spec {l:List WayS} {P:WayS->Bool} (h:decide (idxW l P = -1)=false):idxW l P=firstD l P/\firstD l P < l.length/\P (l.getD (firstD l P) default)=true /\ ∀ j,j < firstD l P->P (l.getD j default)=false:=by
 have h0:idxW l P ≠ -1:=of_decide_eq_false h
 rcases idxW_spec l P with ⟨e,_⟩ | ⟨i,e,h1,h2,h3⟩
 ·exact absurd e h0
 ·have:firstD l P=i:=by unfold firstD; rw [e]; rfl
  rw [this]; exact ⟨e,h1,h2,h3⟩
theorem kept_first {l:List WayS} {P:WayS->Bool} (h:decide (idxW l P = -1)=false):keptW l P (firstD l P + 1)=l.take (firstD l P)/\(keptW l P (firstD l P + 1)).length=firstD l P:=by
 obtain ⟨_,h1,h2,h3⟩:=first_spec h
 have:keptW l P (firstD l P + 1)=l.take (firstD l P):=by rw [keptW_t h1 h2,keptW_first (by omega) h3]
 exact ⟨this,by rw [this,List.length_take]; omega⟩
theorem kept_lt {l:List WayS} {P:WayS->Bool} (h:decide (idxW l P = -1)=false):∀ j,firstD l P + 1<=j->j<=l.length->(keptW l P j).length < j:=by
 intro j h1
 induction j with
 | zero=>omega
 | succ j ih =>
  intro h2
  by_cases e:j=firstD l P
  ·rw [e,(kept_first h).2]; omega
  ·have h3:=ih (by omega) (by omega)
   cases hp:P (l.getD j default) with
   | true=>rw [keptW_t (by omega) hp]; omega
   | false=>rw [keptW_f (by omega) hp,List.length_append]; simp; omega
theorem rowW_self (l:List WayS) (P:WayS->Bool) (j:Nat):rowW l P j j=l.getD j default:=by
 unfold rowW; rw [if_neg (by have:=keptW_len l P j; omega)]
theorem rowW_t {l:List WayS} {P:WayS->Bool} {j:Nat} (h:j < l.length) (hp:P (l.getD j default)=true) (q:Nat):rowW l P (j + 1) q=rowW l P j q:=by unfold rowW; rw [keptW_t h hp]
theorem rowW_f {l:List WayS} {P:WayS->Bool} {j:Nat} (h:j < l.length) (hp:P (l.getD j default)=false) (q:Nat):rowW l P (j + 1) q=if q=(keptW l P j).length then l.getD j default else rowW l P j q:=by
 unfold rowW
 rw [keptW_f h hp,List.length_append,List.length_singleton,Go.Ab.getD_append]
 by_cases h1:q < (keptW l P j).length
 ·rw [if_pos (by omega),if_pos h1,if_neg (by omega),if_pos h1]
 ·by_cases h2:q=(keptW l P j).length
  ·subst h2; rw [if_pos (by omega),if_neg h1,if_pos rfl,Nat.sub_self]; rfl
  ·rw [if_neg (by omega),if_neg h2,if_neg h1]
theorem rowW_first {l:List WayS} {P:WayS->Bool} (h:decide (idxW l P = -1)=false) (q:Nat):rowW l P (firstD l P + 1) q=l.getD q default:=by
 obtain ⟨h1,h2⟩:=kept_first h
 have h3:=(first_spec h).2.1
 unfold rowW
 rw [h2]
 split
 ·rename_i hq
  rw [h1,Go.Ab.getD_lt _ _ (by rw [List.length_take]; omega),List.getElem_take,Go.Ab.getD_lt _ _ (by omega)]
 ·rfl
theorem del_none {l:List WayS} {P:WayS->Bool} (h:decide (idxW l P = -1)=true):delW l P=l:=by
 have h0:idxW l P = -1:=of_decide_eq_true h
 rcases idxW_spec l P with ⟨_,h1⟩ | ⟨i,e,_⟩
 ·unfold delW; rw [List.filter_eq_self]; intro w hw; rw [h1 w hw]; rfl
 ·omega
def ofM (f:Nat) (m:Int) (w:WayS):Bool := !decide (w.frm.getD f 0=m)
def mixOf (r:Run) (l:List WayS) (f:Nat) (m:Int):Span:=hullOf (delW l (ofM f m)) (mixF r)
def seekTP (r:Run) (l:List WayS) (n:Nat):Int × Int:=seekTo (whereP l) (fun c m=>mixOf r l c m) n
def seekP (r:Run):Int × Int:=if openE r true=0 then seekOf (seekTP r (waysOf r) r.found.length) else (0,openE r true)
end Go.Sh
namespace Go.Sh
open Go Go.Ab Go.En
def endA (ws:List WayS) (P:WayS->Bool) (q:Nat):List AV:=if q < (delW ws P).length then cWay ((delW ws P).getD q default) else [nilv,.arr 6 3 (fun _=>[.arr 2 3 (fun _=>[iv 0,iv 0])])]
theorem endA_lt {ws:List WayS} {P:WayS->Bool} {q:Nat} (h:q < (delW ws P).length):endA ws P q=cWay ((delW ws P).getD q default):=if_pos h
theorem endA_ge {ws:List WayS} {P:WayS->Bool} {q:Nat} (h:¬ q < (delW ws P).length):endA ws P q = [nilv,.arr 6 3 (fun _=>[.arr 2 3 (fun _=>[iv 0,iv 0])])]:=if_neg h
end Go.Sh
namespace Go.Ab
open Go Go.RowKit Go.Proofs Go.Sh Go.En
def rowOf (ws:List WayS):OB := .vec 107 19 ws.length (fun i=>cWay (ws.getD i default))
def ou95 (ws:List WayS):OutSpec:={ args:=[aWays ws],pre:=0 < ws.length/\ws.length<=65536,res := .vec 0,hout:=[(0,rowOf ws)] }
def s95o (ws:List WayS) (id:Nat):CallSpec:=(ou95 ws).at [(0,id)]
def io123 (ws:List WayS) (P:WayS->Bool):IoSpec:={ args:=[.vec 0,.fn 0],pre:=0 < ws.length/\ws.length<=65536,fnok:=fnokOf Try.prog 0 (fun w:{ w:WayS // w ∈ ws }=>[.agg (cWay w.1)]) (fun w=>bv (P w.1)),hin:=[(0,rowOf ws)],res:=iv (idxW ws P),hout:=[(0,rowOf ws)] }
def s123 (b:Nat) (ws:List WayS) (P:WayS->Bool):CallSpec:=(io123 ws P).at [(0,b)]
def h123 (ws:List WayS) (P:WayS->Bool):Hint:={ X:=Nat,M:=fun i=>[(8,iv i)],I:=fun i=>i<=ws.length /\ ∀ j,j < i->P (ws.getD j default)=false,mu:=fun i=>ws.length - i,x0:=(0:Nat),nx:=fun i=>i + 1 }
def c123 (ws:List WayS) (P:WayS->Bool) (x:Nat):CallSpec:={ args:=[.agg (cWay (ws.getD x default))],res:=bv (P (ws.getD x default)) }
def io94 (ws:List WayS) (P:WayS->Bool):IoSpec:={ args:=[.vec 0,.fn 0],pre:=0 < ws.length/\ws.length<=65536,fnok:=fnokOf Try.prog 0 (fun w:{ w:WayS // w ∈ ws }=>[.agg (cWay w.1)]) (fun w=>bv (P w.1)),hin:=[(0,rowOf ws)],res:=aWays (delW ws P),hout:=[] }
def s94 (b:Nat) (ws:List WayS) (P:WayS->Bool):CallSpec:=(io94 ws P).at [(0,b)]
def h94 (ws:List WayS) (P:WayS->Bool):Hint:={ X:=Nat,M:=fun j=>[(5,iv (keptW ws P j).length),(6,iv j)],H:=fun j=>[(0,.vec 107 19 ws.length (fun q=>cWay (rowW ws P j q)))],I:=fun j=>firstD ws P + 1<=j/\j<=ws.length,mu:=fun j=>ws.length - j,x0:=firstD ws P + 1,nx:=fun j=>j + 1 }
def c94a (ws:List WayS) (P:WayS->Bool):CallSpec:=s123 0 ws P
def c94b (ws:List WayS) (P:WayS->Bool) (x:Nat):CallSpec:={ args:=[.agg (cWay (ws.getD x default))],res:=bv (P (ws.getD x default)) }
def s96 (w:WayS) (f:Nat) (m:Int):CallSpec:={ args:=[.agg (cWay w),.rp [iv f],.rp [iv m]],res:=bv (ofM f m w),pre:=f < w.frm.length }
end Go.Ab
namespace Go.Ab
open Go Go.RowKit Go.Proofs Go.Sh Go.En
theorem wo95 (ws:List WayS)
  (o0:0 < ws.length/\ws.length<=65536->0 + ws.length<=65536)
  (o1:0 < ws.length/\ws.length<=65536->0 + ws.length=ws.length)
  (l:List (Nat × Nat)) (hl:l.map (·.1)=(OutSpec.hout (ou95 ws)).map (·.1)) (hnd:(l.map (·.2)).Nodup) :
  Triple Try.prog 95 (OutSpec.at (ou95 ws) l):=by
 refine triple_out Try.func95 rfl Try.call95 T0_ok _ _ _ _ l rfl (Nat.le_of_ble_eq_true (by kernel_rfl)) hl hnd (by kernel_rfl) (by kernel_rfl) (by kernel_rfl) ?_
 intro hp C hC hE
 obtain ⟨P,w0,E0,av,hA⟩:=C
 subst hC
 refine swp_seq ?_
 refine sQ (kt:=[0]) (kh:=[]) (q:=True/\True) (st':=ASt.mk [(0,aWays ws)] [] 8) ⟨tv,tv⟩ ?_
 refine swp_seq (swp_seq ?_)
 refine sQ (kt:=[0,4]) (kh:=[]) (q:=True/\0 < ws.length/\True) (st':=ASt.mk [(0,aWays ws),(4,bv false)] [] 24) ⟨tv,hp.1,tv⟩ ?_
 refine swp_cond false (by kernel_rfl) (fun h=>by cases h) (fun _ => ?_)
 refine swp_skip (swp_seq ?_)
 refine sQ (kt:=[2]) (kh:=[40]) (q:=True/\True/\0 + ws.length<=65536/\True/\True) (st':=ASt.mk [(2,.vec 40)] [(40,.vec 107 19 (0 + ws.length) fun (i:Nat)=>cWay (ws.getD i default))] 56) ⟨tv,tv,(o0 hp),tv,tv⟩ ?_
 refine swp_ret ?_
 exact ret_o (ASt.mk [(2,AV.vec 0)] [(0,OB.vec 107 19 ws.length fun (i:Nat)=>cWay (ws.getD i default))] 100) (eQ hE [] [(0,.same 40)] [] [] ((zE (some (Src.same 40))/\True)/\((107=107/\19=19/\0 + ws.length=ws.length /\ ∀ (i0:Nat),i0 < 0 + ws.length->cWay (ws.getD i0 default)=cWay (ws.getD i0 default))/\True)/\T2) ⟨⟨rfl,tv⟩,⟨⟨rfl,rfl,(o1 hp),(fun i0=>(fun h1=>rfl))⟩,tv⟩,rfl,rfl⟩) ((True/\True)/\zE (AV.vec 0)/\zE (some (OB.vec 107 19 ws.length fun (i:Nat)=>cWay (ws.getD i default)))/\True) (by kernel_rfl) ⟨⟨tv,tv⟩,rfl,rfl,tv⟩
theorem t95o (ws:List WayS) (id:Nat):Triple Try.prog 95 (s95o ws id):=by
 refine wo95 ws ?_ ?_ [(0,id)] rfl (by simp)
 all_goals (first | ((repeat intro _) <;> (try simp only [v0,v1,v2,v3,v4,v5,v6,v7,v8,v9,inI,fits,Go.Sh.small] at *) <;> first | (exact rfl) | omega | exact vz | (simp_all; done) | (simp_all; omega)) | skip)
abbrev zio123_1 (ws:List WayS) (P:WayS->Bool):LoopAnn:=Hint.ann (h123 ws P) [(0,AV.vec 0),(1,AV.fn 0),(7,iv (↑(ws.length):Int))] [(0,OB.vec 107 19 ws.length fun (i:Nat)=>cWay (ws.getD i default))] 10033
theorem wio123 (ws:List WayS) (P:WayS->Bool)
  (o0:∀ (E0:Env),fnokOf Try.prog 0 (fun (w:{ w:WayS // w ∈ ws })=>[AV.agg (cWay (Subtype.val w))]) (fun (w:{ w:WayS // w ∈ ws })=>bv (P (Subtype.val w))) E0->0 < ws.length/\ws.length<=65536->0=(↑0:Int))
  (o1:∀ (E0:Env),fnokOf Try.prog 0 (fun (w:{ w:WayS // w ∈ ws })=>[AV.agg (cWay (Subtype.val w))]) (fun (w:{ w:WayS // w ∈ ws })=>bv (P (Subtype.val w))) E0->0 < ws.length/\ws.length<=65536->0<=ws.length /\ ∀ (j:Nat),j < 0->P (ws.getD j default)=false)
  (o2:∀ (E0:Env),fnokOf Try.prog 0 (fun (w:{ w:WayS // w ∈ ws })=>[AV.agg (cWay (Subtype.val w))]) (fun (w:{ w:WayS // w ∈ ws })=>bv (P (Subtype.val w))) E0->0 < ws.length/\ws.length<=65536 -> ∀ (x0:Nat),(x0<=ws.length /\ ∀ (j:Nat),j < x0->P (ws.getD j default)=false)->decide ((x0:Int) < (↑(ws.length):Int))=true->0<=(x0:Int))
  (o3:∀ (E0:Env),fnokOf Try.prog 0 (fun (w:{ w:WayS // w ∈ ws })=>[AV.agg (cWay (Subtype.val w))]) (fun (w:{ w:WayS // w ∈ ws })=>bv (P (Subtype.val w))) E0->0 < ws.length/\ws.length<=65536 -> ∀ (x0:Nat),(x0<=ws.length /\ ∀ (j:Nat),j < x0->P (ws.getD j default)=false)->decide ((x0:Int) < (↑(ws.length):Int))=true->(x0:Int) < (↑(ws.length):Int))
  (o4:∀ (E0:Env),fnokOf Try.prog 0 (fun (w:{ w:WayS // w ∈ ws })=>[AV.agg (cWay (Subtype.val w))]) (fun (w:{ w:WayS // w ∈ ws })=>bv (P (Subtype.val w))) E0->0 < ws.length/\ws.length<=65536 -> ∀ (x0:Nat),(x0<=ws.length /\ ∀ (j:Nat),j < x0->P (ws.getD j default)=false)->decide ((x0:Int) < (↑(ws.length):Int))=true->x0 < ws.length)
  (o5:∀ (E0:Env),fnokOf Try.prog 0 (fun (w:{ w:WayS // w ∈ ws })=>[AV.agg (cWay (Subtype.val w))]) (fun (w:{ w:WayS // w ∈ ws })=>bv (P (Subtype.val w))) E0->0 < ws.length/\ws.length<=65536 -> ∀ (x0:Nat),(x0<=ws.length /\ ∀ (j:Nat),j < x0->P (ws.getD j default)=false)->decide ((x0:Int) < (↑(ws.length):Int))=true -> ∀ (i4:Value),E0.4 0 i4->FnOK Try.prog E0 i4 [AV.agg (cWay (ws.getD x0 default))] (bv (P (ws.getD x0 default))))
  (o6:∀ (E0:Env),fnokOf Try.prog 0 (fun (w:{ w:WayS // w ∈ ws })=>[AV.agg (cWay (Subtype.val w))]) (fun (w:{ w:WayS // w ∈ ws })=>bv (P (Subtype.val w))) E0->0 < ws.length/\ws.length<=65536 -> ∀ (x0:Nat),(x0<=ws.length /\ ∀ (j:Nat),j < x0->P (ws.getD j default)=false)->decide ((x0:Int) < (↑(ws.length):Int))=true->P (ws.getD x0 default)=true->(x0:Int)=idxW ws P)
  (o7:∀ (E0:Env),fnokOf Try.prog 0 (fun (w:{ w:WayS // w ∈ ws })=>[AV.agg (cWay (Subtype.val w))]) (fun (w:{ w:WayS // w ∈ ws })=>bv (P (Subtype.val w))) E0->0 < ws.length/\ws.length<=65536 -> ∀ (x0:Nat),(x0<=ws.length /\ ∀ (j:Nat),j < x0->P (ws.getD j default)=false)->decide ((x0:Int) < (↑(ws.length):Int))=true->P (ws.getD x0 default)=false->inI ((x0:Int) + 1))
  (o8:∀ (E0:Env),fnokOf Try.prog 0 (fun (w:{ w:WayS // w ∈ ws })=>[AV.agg (cWay (Subtype.val w))]) (fun (w:{ w:WayS // w ∈ ws })=>bv (P (Subtype.val w))) E0->0 < ws.length/\ws.length<=65536 -> ∀ (x0:Nat),(x0<=ws.length /\ ∀ (j:Nat),j < x0->P (ws.getD j default)=false)->decide ((x0:Int) < (↑(ws.length):Int))=true->P (ws.getD x0 default)=false->(x0:Int) + 1=(↑(x0 + 1):Int))
  (o9:∀ (E0:Env),fnokOf Try.prog 0 (fun (w:{ w:WayS // w ∈ ws })=>[AV.agg (cWay (Subtype.val w))]) (fun (w:{ w:WayS // w ∈ ws })=>bv (P (Subtype.val w))) E0->0 < ws.length/\ws.length<=65536 -> ∀ (x0:Nat),(x0<=ws.length /\ ∀ (j:Nat),j < x0->P (ws.getD j default)=false)->decide ((x0:Int) < (↑(ws.length):Int))=true->P (ws.getD x0 default)=false->x0 + 1<=ws.length /\ ∀ (j:Nat),j < x0 + 1->P (ws.getD j default)=false)
  (o10:∀ (E0:Env),fnokOf Try.prog 0 (fun (w:{ w:WayS // w ∈ ws })=>[AV.agg (cWay (Subtype.val w))]) (fun (w:{ w:WayS // w ∈ ws })=>bv (P (Subtype.val w))) E0->0 < ws.length/\ws.length<=65536 -> ∀ (x0:Nat),(x0<=ws.length /\ ∀ (j:Nat),j < x0->P (ws.getD j default)=false)->decide ((x0:Int) < (↑(ws.length):Int))=true->P (ws.getD x0 default)=false->ws.length - (x0 + 1) < ws.length - x0)
  (o11:∀ (E0:Env),fnokOf Try.prog 0 (fun (w:{ w:WayS // w ∈ ws })=>[AV.agg (cWay (Subtype.val w))]) (fun (w:{ w:WayS // w ∈ ws })=>bv (P (Subtype.val w))) E0->0 < ws.length/\ws.length<=65536 -> ∀ (x0:Nat),(x0<=ws.length /\ ∀ (j:Nat),j < x0->P (ws.getD j default)=false)->decide ((x0:Int) < (↑(ws.length):Int))=false -> -1=idxW ws P)
  (l:List (Nat × Nat)) (hl:l.map (·.1) = [0]) (hnd:(l.map (·.2)).Nodup) :
  Triple Try.prog 123 (IoSpec.at (io123 ws P) l):=by
 refine triple_io Try.func123 rfl Try.call123 T0_ok (io123 ws P) 1 l (by rw [hl]; kernel_rfl) hnd (Nat.le_of_ble_eq_true (by kernel_rfl)) fnokOf_congr ?_
 intro hp C hC hfn hE
 obtain ⟨P,w0,E0,av,hA⟩:=C
 subst hC
 refine swp_seq ?_
 refine sQ (kt:=[0,1]) (kh:=[0]) (q:=True/\True) (st':=ASt.mk [(0,.vec 0),(1,.fn 0)] [(0,.vec 107 19 ws.length fun (i:Nat)=>cWay (ws.getD i default))] 9) ⟨tv,tv⟩ ?_
 refine swp_seq (swp_seq ?_)
 refine sQ (kt:=[0,1,7,8]) (kh:=[0]) (q:=tn 3) (st':=ASt.mk [(0,.vec 0),(1,.fn 0),(7,iv (↑(ws.length):Int)),(8,iv 0)] [(0,.vec 107 19 ws.length fun (i:Nat)=>cWay (ws.getD i default))] 33) (tp 3) ?_
 refine swp_block ?_
 refine swp_loopA (zio123_1 ws P) (ent_n 1 hE [] [(0,.same 0)] [1,7] [0] ((zE (some (Src.same 0))/\(zT (AV.fn 0))/\(zT (iv (↑(ws.length):Int)))/\(zN (iv 0) (iv (↑0:Int)))/\True)/\((zT (OB.vec 107 19 ws.length fun (i:Nat)=>cWay (ws.getD i default)))/\True)/\T2) (by kernel_rfl) (by kernel_rfl) ⟨⟨rfl,⟨rfl,rfl⟩,⟨rfl,rfl⟩,⟨(congrArg iv (o0 E0 hfn hp)),rfl⟩,tv⟩,⟨⟨rfl,rfl⟩,tv⟩,rfl,rfl⟩) (o1 E0 hfn hp) (fun (x0:Nat) hx0 => ?_)
 refine swp_seq ?_
 refine sQ (kt:=[0,1,7,8,9]) (kh:=[0]) (q:=True/\True) (st':=ASt.mk [(0,.vec 0),(1,.fn 0),(7,iv (↑(ws.length):Int)),(8,iv (x0:Int)),(9,bv (decide ((x0:Int) < (↑(ws.length):Int))))] [(0,.vec 107 19 ws.length fun (i:Nat)=>cWay (ws.getD i default))] 10041) ⟨tv,tv⟩ ?_
 refine swp_seq ?_
 refine swp_cond (decide ((x0:Int) < (↑(ws.length):Int))) (by kernel_rfl) (fun h1 => ?_) (fun h1 => ?_)
 ·refine swp_skip (swp_seq (swp_block (swp_seq ?_)))
  refine sQ (kt:=[0,1,7,8,5]) (kh:=[0]) (q:=tn 2) (st':=ASt.mk [(0,.vec 0),(1,.fn 0),(7,iv (↑(ws.length):Int)),(8,iv (x0:Int)),(5,iv (x0:Int))] [(0,.vec 107 19 ws.length fun (i:Nat)=>cWay (ws.getD i default))] 10057) (tp 2) ?_
  refine swp_seq ?_
  refine sC (cs:=[(5,CallSpec.eq (c123 ws P x0) [true])]) (kt:=[0,1,7,8,5,16]) (kh:=[0]) (q:=True/\True/\True/\(0<=(x0:Int)/\(x0:Int) < (↑(ws.length):Int))/\(x0 < ws.length/\True)/\((((1=1/\(ws.getD x0 default).frm.length=(ws.getD x0 default).frm.length /\ ∀ (i2:Nat),i2 < (ws.getD x0 default).frm.length -> [iv ((ws.getD x0 default).frm.getD i2 0)] = [iv ((ws.getD x0 default).frm.getD i2 0)])/\zE (AV.arr 6 3 fun (m:Nat)=>[AV.arr 2 3 fun (p:Nat)=>cSpan ((ws.getD x0 default).whn m p)])/\True)/\True) /\ ∀ (i4:Value),E0.4 0 i4->FnOK Try.prog E0 i4 [AV.agg (cWay (ws.getD x0 default))] (bv (P (ws.getD x0 default))))/\True) (st':=ASt.mk [(0,.vec 0),(1,.fn 0),(7,iv (↑(ws.length):Int)),(8,iv (x0:Int)),(5,iv (x0:Int)),(16,bv (P (ws.getD x0 default)))] [(0,.vec 107 19 ws.length fun (i:Nat)=>cWay (ws.getD i default))] 10105) ⟨tv,tv,tv,⟨(o2 E0 hfn hp x0 hx0 h1),(o3 E0 hfn hp x0 hx0 h1)⟩,⟨(o4 E0 hfn hp x0 hx0 h1),tv⟩,⟨⟨⟨⟨rfl,rfl,(fun i2=>(fun h3=>rfl))⟩,rfl,tv⟩,tv⟩,(fun i4=>(fun h5=>(o5 E0 hfn hp x0 hx0 h1 i4 h5)))⟩,tv⟩ ?_
  refine swp_cond (P (ws.getD x0 default)) (by kernel_rfl) (fun h6 => ?_) (fun h6 => ?_)
  ·refine swp_seq ?_
   refine sQ (kt:=[4]) (kh:=[0]) (q:=tn 2) (st':=ASt.mk [(4,iv (x0:Int))] [(0,.vec 107 19 ws.length fun (i:Nat)=>cWay (ws.getD i default))] 10121) (tp 2) ?_
   refine swp_ret ?_
   exact ret_o (ASt.mk [(4,iv (idxW ws P))] [(0,OB.vec 107 19 ws.length fun (i:Nat)=>cWay (ws.getD i default))] 100) (ent_n 1 hE [] [(0,.same 0)] [] [0] (((zN (iv (x0:Int)) (iv (idxW ws P)))/\True)/\((zT (OB.vec 107 19 ws.length fun (i:Nat)=>cWay (ws.getD i default)))/\True)/\T2) (by kernel_rfl) (by kernel_rfl) ⟨⟨⟨(congrArg iv (o6 E0 hfn hp x0 hx0 h1 h6)),rfl⟩,tv⟩,⟨⟨rfl,rfl⟩,tv⟩,rfl,rfl⟩) ((True/\True)/\zE (iv (idxW ws P))/\zE (some (OB.vec 107 19 ws.length fun (i:Nat)=>cWay (ws.getD i default)))/\True) (by kernel_rfl) ⟨⟨tv,tv⟩,rfl,rfl,tv⟩
  ·refine swp_skip ?_
   refine sQ (kt:=[0,1,7,8]) (kh:=[0]) (q:=inI ((x0:Int) + 1)/\True/\True) (st':=ASt.mk [(0,.vec 0),(1,.fn 0),(7,iv (↑(ws.length):Int)),(8,iv ((x0:Int) + 1))] [(0,.vec 107 19 ws.length fun (i:Nat)=>cWay (ws.getD i default))] 10121) ⟨(o7 E0 hfn hp x0 hx0 h1 h6),tv,tv⟩ ?_
   exact loop_next (zio123_1 ws P) x0 (ent_n 1 hE [] [(0,.same 0)] [1,7] [0] ((zE (some (Src.same 0))/\(zT (AV.fn 0))/\(zT (iv (↑(ws.length):Int)))/\(zN (iv ((x0:Int) + 1)) (iv (↑(x0 + 1):Int)))/\True)/\((zT (OB.vec 107 19 ws.length fun (i:Nat)=>cWay (ws.getD i default)))/\True)/\T2) (by kernel_rfl) (by kernel_rfl) ⟨⟨rfl,⟨rfl,rfl⟩,⟨rfl,rfl⟩,⟨(congrArg iv (o8 E0 hfn hp x0 hx0 h1 h6)),rfl⟩,tv⟩,⟨⟨rfl,rfl⟩,tv⟩,rfl,rfl⟩) (o9 E0 hfn hp x0 hx0 h1 h6) (o10 E0 hfn hp x0 hx0 h1 h6)
 ·refine swp_exit (swp_seq ?_)
  refine sQ (kt:=[4]) (kh:=[0]) (q:=True/\True) (st':=ASt.mk [(4,iv (-1))] [(0,.vec 107 19 ws.length fun (i:Nat)=>cWay (ws.getD i default))] 10049) ⟨tv,tv⟩ ?_
  refine swp_ret ?_
  exact ret_o (ASt.mk [(4,iv (idxW ws P))] [(0,OB.vec 107 19 ws.length fun (i:Nat)=>cWay (ws.getD i default))] 100) (ent_n 1 hE [] [(0,.same 0)] [] [0] (((zN (iv (-1)) (iv (idxW ws P)))/\True)/\((zT (OB.vec 107 19 ws.length fun (i:Nat)=>cWay (ws.getD i default)))/\True)/\T2) (by kernel_rfl) (by kernel_rfl) ⟨⟨⟨(congrArg iv (o11 E0 hfn hp x0 hx0 h1)),rfl⟩,tv⟩,⟨⟨rfl,rfl⟩,tv⟩,rfl,rfl⟩) ((True/\True)/\zE (iv (idxW ws P))/\zE (some (OB.vec 107 19 ws.length fun (i:Nat)=>cWay (ws.getD i default)))/\True) (by kernel_rfl) ⟨⟨tv,tv⟩,rfl,rfl,tv⟩
theorem t123 (b:Nat) (ws:List WayS) (P:WayS->Bool):Triple Try.prog 123 (s123 b ws P):=by
 refine wio123 ws P ?_ ?_ ?_ ?_ ?_ ?_ ?_ ?_ ?_ ?_ ?_ ?_ [(0,b)] rfl (by simp)
 case refine_6=>intro E0 hfn hp x hx hl u hu; exact hfn u hu ⟨_,getD_mem ws default (by simpa using hl)⟩
 case refine_7=>intro E0 hfn hp x hx hl h; simp only [decide_eq_true_eq] at hl; exact (idxW_found (by omega) hx.2 h).symm
 case refine_10=>intro E0 hfn hp x hx hl h; simp only [decide_eq_true_eq] at hl; exact ⟨by omega,lt_succ_cases hx.2 h⟩
 case refine_12=>intro E0 hfn hp x hx hl; simp only [decide_eq_false_iff_not] at hl; exact (idxW_none (fun j hj=>hx.2 j (by omega))).symm
 all_goals ((repeat intro _) <;> (try simp only [v0,v1,v2,v3,v4,v5,v6,v7,v8,v9,inI,fits,Go.Sh.small] at *) <;> first | (exact rfl) | omega | exact vz | (simp_all; done) | (simp_all; omega))
theorem w96 (w:WayS) (f:Nat) (m:Int)
 (o0:f < List.length (WayS.frm w)->0<=(↑f:Int))
 (o1:f < w.frm.length->(f:Int) < (↑(w.frm.length):Int))
 (o2:f < w.frm.length->(!decide (w.frm.getD f 0=m))=ofM f m w) :
  Triple Try.prog 96 (s96 w f m):=by
 refine triple_of Try.func96 rfl Try.call96 T0_ok _ rfl rfl rfl rfl (Nat.le_of_ble_eq_true (by kernel_rfl)) (fun _ _ _ _ h=>h) ?_
 intro hp C hC _ hE
 obtain ⟨P,w0,E0,av,hA⟩:=C
 subst hC
 refine swp_seq ?_
 refine sQ (kt:=[1,2,3]) (kh:=[0]) (q:=tn 2) (st':=ASt.mk [(1,.rp [iv (f:Int)]),(2,.rp [iv m]),(3,.ptr 0 [])] [(0,.cells 107 (cWay w))] 16) (tp 2) ?_
 refine swp_seq ?_
 refine sQ (kt:=[4]) (kh:=[]) (q:=True/\True/\True/\(0<=(f:Int)/\(f:Int) < (↑(w.frm.length):Int))/\tn 4) (st':=ASt.mk [(4,bv !decide (w.frm.getD f 0=m))] [] 80) ⟨tv,tv,tv,⟨(o0 hp),(o1 hp)⟩,tp 4⟩ ?_
 refine swp_ret ?_
 exact rQ [] ((True/\True)/\(zN (bv !decide (w.frm.getD f 0=m)) (bv (ofM f m w)))/\T3) ⟨⟨tv,tv⟩,⟨(congrArg bv (o2 hp)),rfl⟩,rfl,rfl,rfl⟩
theorem t96 (w:WayS) (f:Nat) (m:Int):Triple Try.prog 96 (s96 w f m):=by
 apply w96
 all_goals (first | ((repeat intro _) <;> (try simp only [v0,v1,v2,v3,v4,v5,v6,v7,v8,v9,inI,fits,Go.Sh.small] at *) <;> first | (exact rfl) | omega | exact vz | (simp_all; done) | (simp_all; omega)) | skip)
abbrev zio94_1 (ws:List WayS) (P:WayS->Bool):LoopAnn:=Hint.ann (h94 ws P) [(0,AV.vec 0),(1,AV.fn 0)] [] 10081
theorem wio94 (ws:List WayS) (P:WayS->Bool)
  (o0:∀ (E0:Env),fnokOf Try.prog 0 (fun (w:{ w:WayS // w ∈ ws })=>[AV.agg (cWay (Subtype.val w))]) (fun (w:{ w:WayS // w ∈ ws })=>bv (P (Subtype.val w))) E0->0 < ws.length/\ws.length<=65536 -> ∀ (i0:Env) (i1:List Value),Env.le E0 i0->i1.length=2->(∀ (k:Nat),Rel i0 true (List.getD [AV.vec 0,AV.fn 0] k AV.any) (i1.getD k undef))->fnokOf Try.prog 0 (fun (w:{ w:WayS // w ∈ ws })=>[AV.agg (cWay (Subtype.val w))]) (fun (w:{ w:WayS // w ∈ ws })=>bv (P (Subtype.val w))) (Env.mk i0.1 i0.2 i0.3 fun (k:Nat) (u:Value) => ∃ (i:Nat),[AV.vec 0,AV.fn 0][i]? = some (AV.fn k)/\i1[i]? = some u))
  (o1:∀ (E0:Env),fnokOf Try.prog 0 (fun (w:{ w:WayS // w ∈ ws })=>[AV.agg (cWay (Subtype.val w))]) (fun (w:{ w:WayS // w ∈ ws })=>bv (P (Subtype.val w))) E0->0 < ws.length/\ws.length<=65536->decide (idxW ws P = -1)=true->ws.length=(delW ws P).length)
  (o2:∀ (E0:Env),fnokOf Try.prog 0 (fun (w:{ w:WayS // w ∈ ws })=>[AV.agg (cWay (Subtype.val w))]) (fun (w:{ w:WayS // w ∈ ws })=>bv (P (Subtype.val w))) E0->0 < ws.length/\ws.length<=65536->decide (idxW ws P = -1)=true -> ∀ (i6:Nat),i6 < (delW ws P).length->cWay (ws.getD i6 default)=cWay ((delW ws P).getD i6 default))
  (o3:∀ (E0:Env),fnokOf Try.prog 0 (fun (w:{ w:WayS // w ∈ ws })=>[AV.agg (cWay (Subtype.val w))]) (fun (w:{ w:WayS // w ∈ ws })=>bv (P (Subtype.val w))) E0->0 < ws.length/\ws.length<=65536->decide (idxW ws P = -1)=false->inI (idxW ws P + 1))
  (o4:∀ (E0:Env),fnokOf Try.prog 0 (fun (w:{ w:WayS // w ∈ ws })=>[AV.agg (cWay (Subtype.val w))]) (fun (w:{ w:WayS // w ∈ ws })=>bv (P (Subtype.val w))) E0->0 < ws.length/\ws.length<=65536->decide (idxW ws P = -1)=false->idxW ws P=(↑((keptW ws P (Nat.succ (Nat.add (firstD ws P) 0))).length):Int))
  (o5:∀ (E0:Env),fnokOf Try.prog 0 (fun (w:{ w:WayS // w ∈ ws })=>[AV.agg (cWay (Subtype.val w))]) (fun (w:{ w:WayS // w ∈ ws })=>bv (P (Subtype.val w))) E0->0 < ws.length/\ws.length<=65536->decide (idxW ws P = -1)=false->idxW ws P + 1=(↑(Nat.succ (Nat.add (firstD ws P) 0)):Int))
  (o6:∀ (E0:Env),fnokOf Try.prog 0 (fun (w:{ w:WayS // w ∈ ws })=>[AV.agg (cWay (Subtype.val w))]) (fun (w:{ w:WayS // w ∈ ws })=>bv (P (Subtype.val w))) E0->0 < ws.length/\ws.length<=65536->decide (idxW ws P = -1)=false -> ∀ (i9:Nat),i9 < ws.length->cWay (ws.getD i9 default)=cWay (rowW ws P (Nat.succ (Nat.add (firstD ws P) 0)) i9))
  (o7:∀ (E0:Env),fnokOf Try.prog 0 (fun (w:{ w:WayS // w ∈ ws })=>[AV.agg (cWay (Subtype.val w))]) (fun (w:{ w:WayS // w ∈ ws })=>bv (P (Subtype.val w))) E0->0 < ws.length/\ws.length<=65536->decide (idxW ws P = -1)=false->firstD ws P + 1<=Nat.succ (Nat.add (firstD ws P) 0)/\Nat.succ (Nat.add (firstD ws P) 0)<=ws.length)
  (o8:∀ (E0:Env),fnokOf Try.prog 0 (fun (w:{ w:WayS // w ∈ ws })=>[AV.agg (cWay (Subtype.val w))]) (fun (w:{ w:WayS // w ∈ ws })=>bv (P (Subtype.val w))) E0->0 < ws.length/\ws.length<=65536->decide (idxW ws P = -1)=false -> ∀ (x8:Nat),firstD ws P + 1<=x8/\x8<=ws.length->decide ((x8:Int) < (↑(ws.length):Int))=true->0<=(x8:Int))
  (o9:∀ (E0:Env),fnokOf Try.prog 0 (fun (w:{ w:WayS // w ∈ ws })=>[AV.agg (cWay (Subtype.val w))]) (fun (w:{ w:WayS // w ∈ ws })=>bv (P (Subtype.val w))) E0->0 < ws.length/\ws.length<=65536->decide (idxW ws P = -1)=false -> ∀ (x8:Nat),firstD ws P + 1<=x8/\x8<=ws.length->decide ((x8:Int) < (↑(ws.length):Int))=true->(x8:Int) < (↑(ws.length):Int))
  (o10:∀ (E0:Env),fnokOf Try.prog 0 (fun (w:{ w:WayS // w ∈ ws })=>[AV.agg (cWay (Subtype.val w))]) (fun (w:{ w:WayS // w ∈ ws })=>bv (P (Subtype.val w))) E0->0 < ws.length/\ws.length<=65536->decide (idxW ws P = -1)=false -> ∀ (x8:Nat),firstD ws P + 1<=x8/\x8<=ws.length->decide ((x8:Int) < (↑(ws.length):Int))=true->x8 < ws.length)
  (o11:∀ (E0:Env),fnokOf Try.prog 0 (fun (w:{ w:WayS // w ∈ ws })=>[AV.agg (cWay (Subtype.val w))]) (fun (w:{ w:WayS // w ∈ ws })=>bv (P (Subtype.val w))) E0->0 < ws.length/\ws.length<=65536->decide (idxW ws P = -1)=false -> ∀ (x8:Nat),firstD ws P + 1<=x8/\x8<=ws.length->decide ((x8:Int) < (↑(ws.length):Int))=true->(rowW ws P x8 x8).frm.length=(ws.getD x8 default).frm.length)
  (o12:∀ (E0:Env),fnokOf Try.prog 0 (fun (w:{ w:WayS // w ∈ ws })=>[AV.agg (cWay (Subtype.val w))]) (fun (w:{ w:WayS // w ∈ ws })=>bv (P (Subtype.val w))) E0->0 < ws.length/\ws.length<=65536->decide (idxW ws P = -1)=false -> ∀ (x8:Nat),firstD ws P + 1<=x8/\x8<=ws.length->decide ((x8:Int) < (↑(ws.length):Int))=true -> ∀ (i12:Nat),i12 < (ws.getD x8 default).frm.length -> [iv ((rowW ws P x8 x8).frm.getD i12 0)] = [iv ((ws.getD x8 default).frm.getD i12 0)])
  (o13:∀ (E0:Env),fnokOf Try.prog 0 (fun (w:{ w:WayS // w ∈ ws })=>[AV.agg (cWay (Subtype.val w))]) (fun (w:{ w:WayS // w ∈ ws })=>bv (P (Subtype.val w))) E0->0 < ws.length/\ws.length<=65536->decide (idxW ws P = -1)=false -> ∀ (x8:Nat),firstD ws P + 1<=x8/\x8<=ws.length->decide ((x8:Int) < (↑(ws.length):Int))=true->(AV.arr 6 3 fun (m:Nat)=>[AV.arr 2 3 fun (p:Nat)=>cSpan ((rowW ws P x8 x8).whn m p)])=AV.arr 6 3 fun (m:Nat)=>[AV.arr 2 3 fun (p:Nat)=>cSpan ((ws.getD x8 default).whn m p)])
  (o14:∀ (E0:Env),fnokOf Try.prog 0 (fun (w:{ w:WayS // w ∈ ws })=>[AV.agg (cWay (Subtype.val w))]) (fun (w:{ w:WayS // w ∈ ws })=>bv (P (Subtype.val w))) E0->0 < ws.length/\ws.length<=65536->decide (idxW ws P = -1)=false -> ∀ (x8:Nat),firstD ws P + 1<=x8/\x8<=ws.length->decide ((x8:Int) < (↑(ws.length):Int))=true -> ∀ (i14:Value),E0.4 0 i14->FnOK Try.prog E0 i14 [AV.agg (cWay (ws.getD x8 default))] (bv (P (ws.getD x8 default))))
  (o15:∀ (E0:Env),fnokOf Try.prog 0 (fun (w:{ w:WayS // w ∈ ws })=>[AV.agg (cWay (Subtype.val w))]) (fun (w:{ w:WayS // w ∈ ws })=>bv (P (Subtype.val w))) E0->0 < ws.length/\ws.length<=65536->decide (idxW ws P = -1)=false -> ∀ (x8:Nat),firstD ws P + 1<=x8/\x8<=ws.length->decide ((x8:Int) < (↑(ws.length):Int))=true->(!P (ws.getD x8 default))=true->0<=(↑((keptW ws P x8).length):Int))
  (o16:∀ (E0:Env),fnokOf Try.prog 0 (fun (w:{ w:WayS // w ∈ ws })=>[AV.agg (cWay (Subtype.val w))]) (fun (w:{ w:WayS // w ∈ ws })=>bv (P (Subtype.val w))) E0->0 < ws.length/\ws.length<=65536->decide (idxW ws P = -1)=false -> ∀ (x8:Nat),firstD ws P + 1<=x8/\x8<=ws.length->decide ((x8:Int) < (↑(ws.length):Int))=true->(!P (ws.getD x8 default))=true->(↑((keptW ws P x8).length):Int) < (↑(ws.length):Int))
  (o17:∀ (E0:Env),fnokOf Try.prog 0 (fun (w:{ w:WayS // w ∈ ws })=>[AV.agg (cWay (Subtype.val w))]) (fun (w:{ w:WayS // w ∈ ws })=>bv (P (Subtype.val w))) E0->0 < ws.length/\ws.length<=65536->decide (idxW ws P = -1)=false -> ∀ (x8:Nat),firstD ws P + 1<=x8/\x8<=ws.length->decide ((x8:Int) < (↑(ws.length):Int))=true->(!P (ws.getD x8 default))=true->(keptW ws P x8).length < ws.length)
  (o18:∀ (E0:Env),fnokOf Try.prog 0 (fun (w:{ w:WayS // w ∈ ws })=>[AV.agg (cWay (Subtype.val w))]) (fun (w:{ w:WayS // w ∈ ws })=>bv (P (Subtype.val w))) E0->0 < ws.length/\ws.length<=65536->decide (idxW ws P = -1)=false -> ∀ (x8:Nat),firstD ws P + 1<=x8/\x8<=ws.length->decide ((x8:Int) < (↑(ws.length):Int))=true->(!P (ws.getD x8 default))=true->inI ((↑((keptW ws P x8).length):Int) + 1))
  (o19:∀ (E0:Env),fnokOf Try.prog 0 (fun (w:{ w:WayS // w ∈ ws })=>[AV.agg (cWay (Subtype.val w))]) (fun (w:{ w:WayS // w ∈ ws })=>bv (P (Subtype.val w))) E0->0 < ws.length/\ws.length<=65536->decide (idxW ws P = -1)=false -> ∀ (x8:Nat),firstD ws P + 1<=x8/\x8<=ws.length->decide ((x8:Int) < (↑(ws.length):Int))=true->(!P (ws.getD x8 default))=true->inI ((x8:Int) + 1))
  (o20:∀ (E0:Env),fnokOf Try.prog 0 (fun (w:{ w:WayS // w ∈ ws })=>[AV.agg (cWay (Subtype.val w))]) (fun (w:{ w:WayS // w ∈ ws })=>bv (P (Subtype.val w))) E0->0 < ws.length/\ws.length<=65536->decide (idxW ws P = -1)=false -> ∀ (x8:Nat),firstD ws P + 1<=x8/\x8<=ws.length->decide ((x8:Int) < (↑(ws.length):Int))=true->(!P (ws.getD x8 default))=true->(↑((keptW ws P x8).length):Int) + 1=(↑((keptW ws P (x8 + 1)).length):Int))
  (o21:∀ (E0:Env),fnokOf Try.prog 0 (fun (w:{ w:WayS // w ∈ ws })=>[AV.agg (cWay (Subtype.val w))]) (fun (w:{ w:WayS // w ∈ ws })=>bv (P (Subtype.val w))) E0->0 < ws.length/\ws.length<=65536->decide (idxW ws P = -1)=false -> ∀ (x8:Nat),firstD ws P + 1<=x8/\x8<=ws.length->decide ((x8:Int) < (↑(ws.length):Int))=true->(!P (ws.getD x8 default))=true->(x8:Int) + 1=(↑(x8 + 1):Int))
  (o22:∀ (E0:Env),fnokOf Try.prog 0 (fun (w:{ w:WayS // w ∈ ws })=>[AV.agg (cWay (Subtype.val w))]) (fun (w:{ w:WayS // w ∈ ws })=>bv (P (Subtype.val w))) E0->0 < ws.length/\ws.length<=65536->decide (idxW ws P = -1)=false -> ∀ (x8:Nat),firstD ws P + 1<=x8/\x8<=ws.length->decide ((x8:Int) < (↑(ws.length):Int))=true->(!P (ws.getD x8 default))=true -> ∀ (i17:Nat),i17 < ws.length->Decidable.rec (fun (h:¬i17=(keptW ws P x8).length)=>cWay (rowW ws P x8 i17)) (fun (h:i17=(keptW ws P x8).length)=>[AV.sl 1 (rowW ws P x8 x8).frm.length fun (i:Nat)=>[iv ((rowW ws P x8 x8).frm.getD i 0)],AV.arr 6 3 fun (m:Nat)=>[AV.arr 2 3 fun (p:Nat)=>cSpan ((rowW ws P x8 x8).whn m p)]] ++ []) (instDecidableEqNat i17 (keptW ws P x8).length)=cWay (rowW ws P (x8 + 1) i17))
  (o23:∀ (E0:Env),fnokOf Try.prog 0 (fun (w:{ w:WayS // w ∈ ws })=>[AV.agg (cWay (Subtype.val w))]) (fun (w:{ w:WayS // w ∈ ws })=>bv (P (Subtype.val w))) E0->0 < ws.length/\ws.length<=65536->decide (idxW ws P = -1)=false -> ∀ (x8:Nat),firstD ws P + 1<=x8/\x8<=ws.length->decide ((x8:Int) < (↑(ws.length):Int))=true->(!P (ws.getD x8 default))=true->firstD ws P + 1<=x8 + 1/\x8 + 1<=ws.length)
  (o24:∀ (E0:Env),fnokOf Try.prog 0 (fun (w:{ w:WayS // w ∈ ws })=>[AV.agg (cWay (Subtype.val w))]) (fun (w:{ w:WayS // w ∈ ws })=>bv (P (Subtype.val w))) E0->0 < ws.length/\ws.length<=65536->decide (idxW ws P = -1)=false -> ∀ (x8:Nat),firstD ws P + 1<=x8/\x8<=ws.length->decide ((x8:Int) < (↑(ws.length):Int))=true->(!P (ws.getD x8 default))=true->ws.length - (x8 + 1) < ws.length - x8)
  (o25:∀ (E0:Env),fnokOf Try.prog 0 (fun (w:{ w:WayS // w ∈ ws })=>[AV.agg (cWay (Subtype.val w))]) (fun (w:{ w:WayS // w ∈ ws })=>bv (P (Subtype.val w))) E0->0 < ws.length/\ws.length<=65536->decide (idxW ws P = -1)=false -> ∀ (x8:Nat),firstD ws P + 1<=x8/\x8<=ws.length->decide ((x8:Int) < (↑(ws.length):Int))=true->(!P (ws.getD x8 default))=false->inI ((x8:Int) + 1))
  (o26:∀ (E0:Env),fnokOf Try.prog 0 (fun (w:{ w:WayS // w ∈ ws })=>[AV.agg (cWay (Subtype.val w))]) (fun (w:{ w:WayS // w ∈ ws })=>bv (P (Subtype.val w))) E0->0 < ws.length/\ws.length<=65536->decide (idxW ws P = -1)=false -> ∀ (x8:Nat),firstD ws P + 1<=x8/\x8<=ws.length->decide ((x8:Int) < (↑(ws.length):Int))=true->(!P (ws.getD x8 default))=false->(↑((keptW ws P x8).length):Int)=(↑((keptW ws P (x8 + 1)).length):Int))
  (o27:∀ (E0:Env),fnokOf Try.prog 0 (fun (w:{ w:WayS // w ∈ ws })=>[AV.agg (cWay (Subtype.val w))]) (fun (w:{ w:WayS // w ∈ ws })=>bv (P (Subtype.val w))) E0->0 < ws.length/\ws.length<=65536->decide (idxW ws P = -1)=false -> ∀ (x8:Nat),firstD ws P + 1<=x8/\x8<=ws.length->decide ((x8:Int) < (↑(ws.length):Int))=true->(!P (ws.getD x8 default))=false->(x8:Int) + 1=(↑(x8 + 1):Int))
  (o28:∀ (E0:Env),fnokOf Try.prog 0 (fun (w:{ w:WayS // w ∈ ws })=>[AV.agg (cWay (Subtype.val w))]) (fun (w:{ w:WayS // w ∈ ws })=>bv (P (Subtype.val w))) E0->0 < ws.length/\ws.length<=65536->decide (idxW ws P = -1)=false -> ∀ (x8:Nat),firstD ws P + 1<=x8/\x8<=ws.length->decide ((x8:Int) < (↑(ws.length):Int))=true->(!P (ws.getD x8 default))=false -> ∀ (i19:Nat),i19 < ws.length->cWay (rowW ws P x8 i19)=cWay (rowW ws P (x8 + 1) i19))
  (o29:∀ (E0:Env),fnokOf Try.prog 0 (fun (w:{ w:WayS // w ∈ ws })=>[AV.agg (cWay (Subtype.val w))]) (fun (w:{ w:WayS // w ∈ ws })=>bv (P (Subtype.val w))) E0->0 < ws.length/\ws.length<=65536->decide (idxW ws P = -1)=false -> ∀ (x8:Nat),firstD ws P + 1<=x8/\x8<=ws.length->decide ((x8:Int) < (↑(ws.length):Int))=true->(!P (ws.getD x8 default))=false->firstD ws P + 1<=x8 + 1/\x8 + 1<=ws.length)
  (o30:∀ (E0:Env),fnokOf Try.prog 0 (fun (w:{ w:WayS // w ∈ ws })=>[AV.agg (cWay (Subtype.val w))]) (fun (w:{ w:WayS // w ∈ ws })=>bv (P (Subtype.val w))) E0->0 < ws.length/\ws.length<=65536->decide (idxW ws P = -1)=false -> ∀ (x8:Nat),firstD ws P + 1<=x8/\x8<=ws.length->decide ((x8:Int) < (↑(ws.length):Int))=true->(!P (ws.getD x8 default))=false->ws.length - (x8 + 1) < ws.length - x8)
  (o31:∀ (E0:Env),fnokOf Try.prog 0 (fun (w:{ w:WayS // w ∈ ws })=>[AV.agg (cWay (Subtype.val w))]) (fun (w:{ w:WayS // w ∈ ws })=>bv (P (Subtype.val w))) E0->0 < ws.length/\ws.length<=65536->decide (idxW ws P = -1)=false -> ∀ (x8:Nat),firstD ws P + 1<=x8/\x8<=ws.length->decide ((x8:Int) < (↑(ws.length):Int))=false->0<=(↑((keptW ws P x8).length):Int))
  (o32:∀ (E0:Env),fnokOf Try.prog 0 (fun (w:{ w:WayS // w ∈ ws })=>[AV.agg (cWay (Subtype.val w))]) (fun (w:{ w:WayS // w ∈ ws })=>bv (P (Subtype.val w))) E0->0 < ws.length/\ws.length<=65536->decide (idxW ws P = -1)=false -> ∀ (x8:Nat),firstD ws P + 1<=x8/\x8<=ws.length->decide ((x8:Int) < (↑(ws.length):Int))=false->(↑((keptW ws P x8).length):Int) < (↑(ws.length):Int))
  (o33:∀ (E0:Env),fnokOf Try.prog 0 (fun (w:{ w:WayS // w ∈ ws })=>[AV.agg (cWay (Subtype.val w))]) (fun (w:{ w:WayS // w ∈ ws })=>bv (P (Subtype.val w))) E0->0 < ws.length/\ws.length<=65536->decide (idxW ws P = -1)=false -> ∀ (x8:Nat),firstD ws P + 1<=x8/\x8<=ws.length->decide ((x8:Int) < (↑(ws.length):Int))=false->(keptW ws P x8).length + (ws.length - (keptW ws P x8).length)=ws.length)
  (o34:∀ (E0:Env),fnokOf Try.prog 0 (fun (w:{ w:WayS // w ∈ ws })=>[AV.agg (cWay (Subtype.val w))]) (fun (w:{ w:WayS // w ∈ ws })=>bv (P (Subtype.val w))) E0->0 < ws.length/\ws.length<=65536->decide (idxW ws P = -1)=false -> ∀ (x8:Nat),firstD ws P + 1<=x8/\x8<=ws.length->decide ((x8:Int) < (↑(ws.length):Int))=false->0 < ws.length - (keptW ws P x8).length)
  (o35:∀ (E0:Env),fnokOf Try.prog 0 (fun (w:{ w:WayS // w ∈ ws })=>[AV.agg (cWay (Subtype.val w))]) (fun (w:{ w:WayS // w ∈ ws })=>bv (P (Subtype.val w))) E0->0 < ws.length/\ws.length<=65536->decide (idxW ws P = -1)=false -> ∀ (x8:Nat),firstD ws P + 1<=x8/\x8<=ws.length->decide ((x8:Int) < (↑(ws.length):Int))=false -> ∀ (i21:Nat),i21 < ws.length->Decidable.rec (fun (h:¬i21 < (keptW ws P x8).length)=>[nilv,AV.arr 6 3 fun (x:Nat)=>[AV.arr 2 3 fun (x:Nat)=>[iv 0,iv 0]]]) (fun (h:i21 < (keptW ws P x8).length)=>cWay (rowW ws P x8 i21)) (Nat.decLt i21 (keptW ws P x8).length)=endA ws P i21)
  (o36:∀ (E0:Env),fnokOf Try.prog 0 (fun (w:{ w:WayS // w ∈ ws })=>[AV.agg (cWay (Subtype.val w))]) (fun (w:{ w:WayS // w ∈ ws })=>bv (P (Subtype.val w))) E0->0 < ws.length/\ws.length<=65536->decide (idxW ws P = -1)=false -> ∀ (x8:Nat),firstD ws P + 1<=x8/\x8<=ws.length->decide ((x8:Int) < (↑(ws.length):Int))=false->0<=(↑((keptW ws P x8).length):Int))
  (o37:∀ (E0:Env),fnokOf Try.prog 0 (fun (w:{ w:WayS // w ∈ ws })=>[AV.agg (cWay (Subtype.val w))]) (fun (w:{ w:WayS // w ∈ ws })=>bv (P (Subtype.val w))) E0->0 < ws.length/\ws.length<=65536->decide (idxW ws P = -1)=false -> ∀ (x8:Nat),firstD ws P + 1<=x8/\x8<=ws.length->decide ((x8:Int) < (↑(ws.length):Int))=false->(↑((keptW ws P x8).length):Int)<=(↑(ws.length):Int))
  (o38:∀ (E0:Env),fnokOf Try.prog 0 (fun (w:{ w:WayS // w ∈ ws })=>[AV.agg (cWay (Subtype.val w))]) (fun (w:{ w:WayS // w ∈ ws })=>bv (P (Subtype.val w))) E0->0 < ws.length/\ws.length<=65536->decide (idxW ws P = -1)=false -> ∀ (x8:Nat),firstD ws P + 1<=x8/\x8<=ws.length->decide ((x8:Int) < (↑(ws.length):Int))=false->(keptW ws P x8).length=(delW ws P).length)
  (o39:∀ (E0:Env),fnokOf Try.prog 0 (fun (w:{ w:WayS // w ∈ ws })=>[AV.agg (cWay (Subtype.val w))]) (fun (w:{ w:WayS // w ∈ ws })=>bv (P (Subtype.val w))) E0->0 < ws.length/\ws.length<=65536->decide (idxW ws P = -1)=false -> ∀ (x8:Nat),firstD ws P + 1<=x8/\x8<=ws.length->decide ((x8:Int) < (↑(ws.length):Int))=false -> ∀ (i25:Nat),i25 < (delW ws P).length->endA ws P i25=cWay ((delW ws P).getD i25 default))
  (l:List (Nat × Nat)) (hl:l.map (·.1) = [0]) (hnd:(l.map (·.2)).Nodup) :
  Triple Try.prog 94 (IoSpec.at (io94 ws P) l):=by
 refine triple_io Try.func94 rfl Try.call94 T0_ok (io94 ws P) 1 l (by rw [hl]; kernel_rfl) hnd (Nat.le_of_ble_eq_true (by kernel_rfl)) fnokOf_congr ?_
 intro hp C hC hfn hE
 obtain ⟨P,w0,E0,av,hA⟩:=C
 subst hC
 refine swp_seq ?_
 refine sQ (kt:=[0,1]) (kh:=[0]) (q:=True/\True) (st':=ASt.mk [(0,.vec 0),(1,.fn 0)] [(0,.vec 107 19 ws.length fun (i:Nat)=>cWay (ws.getD i default))] 9) ⟨tv,tv⟩ ?_
 refine swp_seq ?_
 refine sC (cs:=[(2,CallSpec.eq (c94a ws P) [true,true])]) (kt:=[0,1,5]) (kh:=[0]) (q:=True/\True/\((zE (AV.vec 0)/\zE (AV.fn 0)/\True)/\Triple Try.prog 123 (c94a ws P)/\(0 < ws.length/\ws.length<=65536)/\(zE (some (OB.vec 107 19 ws.length fun (i:Nat)=>cWay (ws.getD i default)))/\True) /\ ∀ (i0:Env) (i1:List Value),Env.le E0 i0->i1.length=2->(∀ (k:Nat),Rel i0 true (List.getD [AV.vec 0,AV.fn 0] k AV.any) (i1.getD k undef))->fnokOf Try.prog 0 (fun (w:{ w:WayS // w ∈ ws })=>[AV.agg (cWay (Subtype.val w))]) (fun (w:{ w:WayS // w ∈ ws })=>bv (P (Subtype.val w))) (Env.mk i0.1 i0.2 i0.3 fun (k:Nat) (u:Value) => ∃ (i:Nat),[AV.vec 0,AV.fn 0][i]? = some (AV.fn k)/\i1[i]? = some u))/\True/\True) (st':=ASt.mk [(0,.vec 0),(1,.fn 0),(5,iv (idxW ws P))] [(0,.vec 107 19 ws.length fun (i:Nat)=>cWay (ws.getD i default))] 41) ⟨tv,tv,⟨⟨rfl,rfl,tv⟩,(t123 _ _ _),⟨hp.1,hp.2⟩,⟨rfl,tv⟩,(fun i0=>(fun i1=>(fun h2=>(fun h3=>(fun h4=>(o0 E0 hfn hp i0 i1 h2 h3 h4))))))⟩,tv,tv⟩ ?_
 refine swp_seq (swp_seq ?_)
 refine sQ (kt:=[0,1,5,12]) (kh:=[0]) (q:=tn 2) (st':=ASt.mk [(0,.vec 0),(1,.fn 0),(5,iv (idxW ws P)),(12,bv (decide (idxW ws P = -1)))] [(0,.vec 107 19 ws.length fun (i:Nat)=>cWay (ws.getD i default))] 57) (tp 2) ?_
 refine swp_cond (decide (idxW ws P = -1)) (by kernel_rfl) (fun h5 => ?_) (fun h5 => ?_)
 ·refine swp_seq ?_
  refine sQ (kt:=[4]) (kh:=[0]) (q:=tn 2) (st':=ASt.mk [(4,.vec 0)] [(0,.vec 107 19 ws.length fun (i:Nat)=>cWay (ws.getD i default))] 73) (tp 2) ?_
  refine swp_ret ?_
  exact ret_o (ASt.mk [(4,aWays (delW ws P))] [] 100) (ent_n 1 hE [0] [] [] [] (((19=19/\ws.length=(delW ws P).length /\ ∀ (i6:Nat),i6 < (delW ws P).length->cWay (ws.getD i6 default)=cWay ((delW ws P).getD i6 default))/\True)/\True/\T2) (by kernel_rfl) (by kernel_rfl) ⟨⟨⟨rfl,(o1 E0 hfn hp h5),(fun i6=>(fun h7=>(o2 E0 hfn hp h5 i6 h7)))⟩,tv⟩,tv,rfl,rfl⟩) ((True/\True)/\zE (aWays (delW ws P))/\True) (by kernel_rfl) ⟨⟨tv,tv⟩,rfl,tv⟩
 ·refine swp_skip (swp_seq (swp_seq ?_))
  refine sQ (kt:=[0,1,5,6]) (kh:=[0]) (q:=True/\inI (idxW ws P + 1)/\True/\True) (st':=ASt.mk [(0,.vec 0),(1,.fn 0),(5,iv (idxW ws P)),(6,iv (idxW ws P + 1))] [(0,.vec 107 19 ws.length fun (i:Nat)=>cWay (ws.getD i default))] 81) ⟨tv,(o3 E0 hfn hp h5),tv,tv⟩ ?_
  refine swp_block ?_
  refine swp_loopA (zio94_1 ws P) (ent_n 1 hE [] [(0,.same 0)] [1] [] ((zE (some (Src.same 0))/\(zT (AV.fn 0))/\(zN (iv (idxW ws P)) (iv (↑((keptW ws P (Nat.succ (Nat.add (firstD ws P) 0))).length):Int)))/\(zN (iv (idxW ws P + 1)) (iv (↑(Nat.succ (Nat.add (firstD ws P) 0)):Int)))/\True)/\((107=107/\19=19/\ws.length=ws.length /\ ∀ (i9:Nat),i9 < ws.length->cWay (ws.getD i9 default)=cWay (rowW ws P (Nat.succ (Nat.add (firstD ws P) 0)) i9))/\True)/\T2) (by kernel_rfl) (by kernel_rfl) ⟨⟨rfl,⟨rfl,rfl⟩,⟨(congrArg iv (o4 E0 hfn hp h5)),rfl⟩,⟨(congrArg iv (o5 E0 hfn hp h5)),rfl⟩,tv⟩,⟨⟨rfl,rfl,rfl,(fun i9=>(fun h10=>(o6 E0 hfn hp h5 i9 h10)))⟩,tv⟩,rfl,rfl⟩) (o7 E0 hfn hp h5) (fun (x8:Nat) hx8 => ?_)
  refine swp_seq (swp_seq ?_)
  refine sQ (kt:=[0,1,5,6,19]) (kh:=[0]) (q:=tn 4) (st':=ASt.mk [(0,.vec 0),(1,.fn 0),(5,iv (↑((keptW ws P x8).length):Int)),(6,iv (x8:Int)),(19,bv (decide ((x8:Int) < (↑(ws.length):Int))))] [(0,.vec 107 19 ws.length fun (q:Nat)=>cWay (rowW ws P x8 q))] 10113) (tp 4) ?_
  refine swp_cond (decide ((x8:Int) < (↑(ws.length):Int))) (by kernel_rfl) (fun h11 => ?_) (fun h11 => ?_)
  ·refine swp_skip (swp_seq (swp_block (swp_seq ?_)))
   refine sQ (kt:=[0,1,5,6,7]) (kh:=[0,10145]) (q:=True/\True/\(0<=(x8:Int)/\(x8:Int) < (↑(ws.length):Int))/\(x8 < ws.length/\True)/\tn 2) (st':=ASt.mk [(0,.vec 0),(1,.fn 0),(5,iv (↑((keptW ws P x8).length):Int)),(6,iv (x8:Int)),(7,.ptr 10145 [])] [(0,.vec 107 19 ws.length fun (q:Nat)=>cWay (rowW ws P x8 q)),(10145,.cells 107 (cWay (rowW ws P x8 x8)))] 10161) ⟨tv,tv,⟨(o8 E0 hfn hp h5 x8 hx8 h11),(o9 E0 hfn hp h5 x8 hx8 h11)⟩,⟨(o10 E0 hfn hp h5 x8 hx8 h11),tv⟩,tp 2⟩ ?_
   refine swp_seq ?_
   refine sC (cs:=[(2,CallSpec.eq (c94b ws P x8) [false])]) (kt:=[0,1,5,6,7,29]) (kh:=[0,10145]) (q:=True/\True/\((((1=1/\(rowW ws P x8 x8).frm.length=(ws.getD x8 default).frm.length /\ ∀ (i12:Nat),i12 < (ws.getD x8 default).frm.length -> [iv ((rowW ws P x8 x8).frm.getD i12 0)] = [iv ((ws.getD x8 default).frm.getD i12 0)])/\((AV.arr 6 3 fun (m:Nat)=>[AV.arr 2 3 fun (p:Nat)=>cSpan ((rowW ws P x8 x8).whn m p)])=AV.arr 6 3 fun (m:Nat)=>[AV.arr 2 3 fun (p:Nat)=>cSpan ((ws.getD x8 default).whn m p)])/\True)/\True) /\ ∀ (i14:Value),E0.4 0 i14->FnOK Try.prog E0 i14 [AV.agg (cWay (ws.getD x8 default))] (bv (P (ws.getD x8 default))))/\True/\True) (st':=ASt.mk [(0,.vec 0),(1,.fn 0),(5,iv (↑((keptW ws P x8).length):Int)),(6,iv (x8:Int)),(7,.ptr 10145 []),(29,bv !P (ws.getD x8 default))] [(0,.vec 107 19 ws.length fun (q:Nat)=>cWay (rowW ws P x8 q)),(10145,.cells 107 (cWay (rowW ws P x8 x8)))] 10193) ⟨tv,tv,⟨⟨⟨⟨rfl,(o11 E0 hfn hp h5 x8 hx8 h11),(fun i12=>(fun h13=>(o12 E0 hfn hp h5 x8 hx8 h11 i12 h13)))⟩,(o13 E0 hfn hp h5 x8 hx8 h11),tv⟩,tv⟩,(fun i14=>(fun h15=>(o14 E0 hfn hp h5 x8 hx8 h11 i14 h15)))⟩,tv,tv⟩ ?_
   refine swp_cond (!P (ws.getD x8 default)) (by kernel_rfl) (fun h16 => ?_) (fun h16 => ?_)
   ·refine swp_seq ?_
    refine sQ (kt:=[0,1,5,6]) (kh:=[0]) (q:=True/\True/\True/\(0<=(↑((keptW ws P x8).length):Int)/\(↑((keptW ws P x8).length):Int) < (↑(ws.length):Int))/\((keptW ws P x8).length < ws.length/\True)/\True) (st':=ASt.mk [(0,.vec 0),(1,.fn 0),(5,iv (↑((keptW ws P x8).length):Int)),(6,iv (x8:Int))] [(0,.vec 107 19 ws.length fun (j:Nat)=>Decidable.rec (fun (h:¬j=(keptW ws P x8).length)=>cWay (rowW ws P x8 j)) (fun (h:j=(keptW ws P x8).length)=>[.sl 1 (rowW ws P x8 x8).frm.length fun (i:Nat)=>[iv ((rowW ws P x8 x8).frm.getD i 0)],.arr 6 3 fun (m:Nat)=>[.arr 2 3 fun (p:Nat)=>cSpan ((rowW ws P x8 x8).whn m p)]] ++ []) (instDecidableEqNat j (keptW ws P x8).length))] 10233) ⟨tv,tv,tv,⟨(o15 E0 hfn hp h5 x8 hx8 h11 h16),(o16 E0 hfn hp h5 x8 hx8 h11 h16)⟩,⟨(o17 E0 hfn hp h5 x8 hx8 h11 h16),tv⟩,tv⟩ ?_
    refine sQ (kt:=[0,1,5,6]) (kh:=[0]) (q:=True/\inI ((↑((keptW ws P x8).length):Int) + 1)/\True/\True) (st':=ASt.mk [(0,.vec 0),(1,.fn 0),(5,iv ((↑((keptW ws P x8).length):Int) + 1)),(6,iv (x8:Int))] [(0,.vec 107 19 ws.length fun (j:Nat)=>Decidable.rec (fun (h:¬j=(keptW ws P x8).length)=>cWay (rowW ws P x8 j)) (fun (h:j=(keptW ws P x8).length)=>[.sl 1 (rowW ws P x8 x8).frm.length fun (i:Nat)=>[iv ((rowW ws P x8 x8).frm.getD i 0)],.arr 6 3 fun (m:Nat)=>[.arr 2 3 fun (p:Nat)=>cSpan ((rowW ws P x8 x8).whn m p)]] ++ []) (instDecidableEqNat j (keptW ws P x8).length))] 10257) ⟨tv,(o18 E0 hfn hp h5 x8 hx8 h11 h16),tv,tv⟩ ?_
    refine sQ (kt:=[0,1,5,6]) (kh:=[0]) (q:=True/\inI ((x8:Int) + 1)/\True/\True) (st':=ASt.mk [(0,.vec 0),(1,.fn 0),(5,iv ((↑((keptW ws P x8).length):Int) + 1)),(6,iv ((x8:Int) + 1))] [(0,.vec 107 19 ws.length fun (j:Nat)=>Decidable.rec (fun (h:¬j=(keptW ws P x8).length)=>cWay (rowW ws P x8 j)) (fun (h:j=(keptW ws P x8).length)=>[.sl 1 (rowW ws P x8 x8).frm.length fun (i:Nat)=>[iv ((rowW ws P x8 x8).frm.getD i 0)],.arr 6 3 fun (m:Nat)=>[.arr 2 3 fun (p:Nat)=>cSpan ((rowW ws P x8 x8).whn m p)]] ++ []) (instDecidableEqNat j (keptW ws P x8).length))] 10281) ⟨tv,(o19 E0 hfn hp h5 x8 hx8 h11 h16),tv,tv⟩ ?_
    exact loop_next (zio94_1 ws P) x8 (ent_n 1 hE [] [(0,.same 0)] [1] [] ((zE (some (Src.same 0))/\(zT (AV.fn 0))/\(zN (iv ((↑((keptW ws P x8).length):Int) + 1)) (iv (↑((keptW ws P (x8 + 1)).length):Int)))/\(zN (iv ((x8:Int) + 1)) (iv (↑(x8 + 1):Int)))/\True)/\((107=107/\19=19/\ws.length=ws.length /\ ∀ (i17:Nat),i17 < ws.length->Decidable.rec (fun (h:¬i17=(keptW ws P x8).length)=>cWay (rowW ws P x8 i17)) (fun (h:i17=(keptW ws P x8).length)=>[AV.sl 1 (rowW ws P x8 x8).frm.length fun (i:Nat)=>[iv ((rowW ws P x8 x8).frm.getD i 0)],AV.arr 6 3 fun (m:Nat)=>[AV.arr 2 3 fun (p:Nat)=>cSpan ((rowW ws P x8 x8).whn m p)]] ++ []) (instDecidableEqNat i17 (keptW ws P x8).length)=cWay (rowW ws P (x8 + 1) i17))/\True)/\T2) (by kernel_rfl) (by kernel_rfl) ⟨⟨rfl,⟨rfl,rfl⟩,⟨(congrArg iv (o20 E0 hfn hp h5 x8 hx8 h11 h16)),rfl⟩,⟨(congrArg iv (o21 E0 hfn hp h5 x8 hx8 h11 h16)),rfl⟩,tv⟩,⟨⟨rfl,rfl,rfl,(fun i17=>(fun h18=>(o22 E0 hfn hp h5 x8 hx8 h11 h16 i17 h18)))⟩,tv⟩,rfl,rfl⟩) (o23 E0 hfn hp h5 x8 hx8 h11 h16) (o24 E0 hfn hp h5 x8 hx8 h11 h16)
   ·refine swp_skip ?_
    refine sQ (kt:=[0,1,5,6]) (kh:=[0]) (q:=True/\inI ((x8:Int) + 1)/\True/\True) (st':=ASt.mk [(0,.vec 0),(1,.fn 0),(5,iv (↑((keptW ws P x8).length):Int)),(6,iv ((x8:Int) + 1))] [(0,.vec 107 19 ws.length fun (q:Nat)=>cWay (rowW ws P x8 q))] 10217) ⟨tv,(o25 E0 hfn hp h5 x8 hx8 h11 h16),tv,tv⟩ ?_
    exact loop_next (zio94_1 ws P) x8 (ent_n 1 hE [] [(0,.same 0)] [1] [] ((zE (some (Src.same 0))/\(zT (AV.fn 0))/\(zN (iv (↑((keptW ws P x8).length):Int)) (iv (↑((keptW ws P (x8 + 1)).length):Int)))/\(zN (iv ((x8:Int) + 1)) (iv (↑(x8 + 1):Int)))/\True)/\((107=107/\19=19/\ws.length=ws.length /\ ∀ (i19:Nat),i19 < ws.length->cWay (rowW ws P x8 i19)=cWay (rowW ws P (x8 + 1) i19))/\True)/\T2) (by kernel_rfl) (by kernel_rfl) ⟨⟨rfl,⟨rfl,rfl⟩,⟨(congrArg iv (o26 E0 hfn hp h5 x8 hx8 h11 h16)),rfl⟩,⟨(congrArg iv (o27 E0 hfn hp h5 x8 hx8 h11 h16)),rfl⟩,tv⟩,⟨⟨rfl,rfl,rfl,(fun i19=>(fun h20=>(o28 E0 hfn hp h5 x8 hx8 h11 h16 i19 h20)))⟩,tv⟩,rfl,rfl⟩) (o29 E0 hfn hp h5 x8 hx8 h11 h16) (o30 E0 hfn hp h5 x8 hx8 h11 h16)
  ·refine swp_exit (swp_seq ?_)
   refine sQ (kt:=[0,5]) (kh:=[0]) (q:=True/\True/\(0<=(↑((keptW ws P x8).length):Int)/\(↑((keptW ws P x8).length):Int) < (↑(ws.length):Int))/\((keptW ws P x8).length + (ws.length - (keptW ws P x8).length)=ws.length/\0 < ws.length - (keptW ws P x8).length)/\True) (st':=ASt.mk [(0,.vec 0),(5,iv (↑((keptW ws P x8).length):Int))] [(0,.vec 107 19 ws.length fun (j:Nat)=>Decidable.rec (fun (h:¬j < (keptW ws P x8).length)=>[nilv,.arr 6 3 fun (x:Nat)=>[.arr 2 3 fun (x:Nat)=>[iv 0,iv 0]]]) (fun (h:j < (keptW ws P x8).length)=>cWay (rowW ws P x8 j)) (Nat.decLt j (keptW ws P x8).length))] 10145) ⟨tv,tv,⟨(o31 E0 hfn hp h5 x8 hx8 h11),(o32 E0 hfn hp h5 x8 hx8 h11)⟩,⟨(o33 E0 hfn hp h5 x8 hx8 h11),(o34 E0 hfn hp h5 x8 hx8 h11)⟩,tv⟩ ?_
   refine swp_seq ?_
   refine swp_ent (ent_n (st2:=ASt.mk [(0,AV.vec 0),(5,iv (↑((keptW ws P x8).length):Int))] [(0,OB.vec 107 19 ws.length fun (q:Nat)=>endA ws P q)] 10145) 1 hE [] [(0,.same 0)] [5] [] ((zE (some (Src.same 0))/\(zT (iv (↑((keptW ws P x8).length):Int)))/\True)/\((107=107/\19=19/\ws.length=ws.length /\ ∀ (i21:Nat),i21 < ws.length->Decidable.rec (fun (h:¬i21 < (keptW ws P x8).length)=>[nilv,AV.arr 6 3 fun (x:Nat)=>[AV.arr 2 3 fun (x:Nat)=>[iv 0,iv 0]]]) (fun (h:i21 < (keptW ws P x8).length)=>cWay (rowW ws P x8 i21)) (Nat.decLt i21 (keptW ws P x8).length)=endA ws P i21)/\True)/\T2) (by kernel_rfl) (by kernel_rfl) ⟨⟨rfl,⟨rfl,rfl⟩,tv⟩,⟨⟨rfl,rfl,rfl,(fun i21=>(fun h22=>(o35 E0 hfn hp h5 x8 hx8 h11 i21 h22)))⟩,tv⟩,rfl,rfl⟩) ?_
   refine swp_ent (ent_n (st2:=ASt.mk [(0,AV.sl 19 ws.length fun (q:Nat)=>endA ws P q),(5,iv (↑((keptW ws P x8).length):Int))] [] 10145) 1 hE [0] [] [5] [] (((19=19/\ws.length=ws.length /\ ∀ (i23:Nat),i23 < ws.length->endA ws P i23=endA ws P i23)/\(zT (iv (↑((keptW ws P x8).length):Int)))/\True)/\True/\T2) (by kernel_rfl) (by kernel_rfl) ⟨⟨⟨rfl,rfl,(fun i23=>(fun h24=>rfl))⟩,⟨rfl,rfl⟩,tv⟩,tv,rfl,rfl⟩) ?_
   refine sQ (kt:=[4]) (kh:=[]) (q:=True/\True/\(0<=(↑((keptW ws P x8).length):Int)/\(↑((keptW ws P x8).length):Int)<=(↑(ws.length):Int))/\True/\True) (st':=ASt.mk [(4,.sl 19 (keptW ws P x8).length fun (q:Nat)=>endA ws P q)] [] 10177) ⟨tv,tv,⟨(o36 E0 hfn hp h5 x8 hx8 h11),(o37 E0 hfn hp h5 x8 hx8 h11)⟩,tv,tv⟩ ?_
   refine swp_ret ?_
   exact ret_o (ASt.mk [(4,aWays (delW ws P))] [] 100) (ent_n 1 hE [] [] [] [] (((19=19/\(keptW ws P x8).length=(delW ws P).length /\ ∀ (i25:Nat),i25 < (delW ws P).length->endA ws P i25=cWay ((delW ws P).getD i25 default))/\True)/\True/\T2) (by kernel_rfl) (by kernel_rfl) ⟨⟨⟨rfl,(o38 E0 hfn hp h5 x8 hx8 h11),(fun i25=>(fun h26=>(o39 E0 hfn hp h5 x8 hx8 h11 i25 h26)))⟩,tv⟩,tv,rfl,rfl⟩) ((True/\True)/\zE (aWays (delW ws P))/\True) (by kernel_rfl) ⟨⟨tv,tv⟩,rfl,tv⟩
theorem rec_ei {α:Type} {i j:Nat} {a:¬ i=j->α} {b:i=j->α} {c:α} (h1:∀ h,a h=c) (h2:∀ h,b h=c):(Decidable.rec a b (instDecidableEqNat i j):α)=c:=by
 cases instDecidableEqNat i j with
 | isTrue h=>exact h2 h
 | isFalse h=>exact h1 h
theorem rec_lt {α:Type} {i j:Nat} {a:¬ i < j->α} {b:i < j->α} {c:α} (h1:∀ h,a h=c) (h2:∀ h,b h=c):(Decidable.rec a b (Nat.decLt i j):α)=c:=by
 cases Nat.decLt i j with
 | isTrue h=>exact h2 h
 | isFalse h=>exact h1 h
theorem t94 (b:Nat) (ws:List WayS) (P:WayS->Bool):Triple Try.prog 94 (s94 b ws P):=by
 refine wio94 ws P ?o0 ?o1 ?o2 ?o3 ?o4 ?o5 ?o6 ?o7 ?o8 ?o9 ?o10 ?o11 ?o12 ?o13 ?o14 ?o15 ?o16 ?o17 ?o18 ?o19 ?o20 ?o21 ?o22 ?o23 ?o24 ?o25 ?o26 ?o27 ?o28 ?o29 ?o30 ?o31 ?o32 ?o33 ?o34 ?o35 ?o36 ?o37 ?o38 ?o39 [(0,b)] rfl (by simp)
 all_goals (first | ((repeat intro _) <;> (try simp only [v0,v1,v2,v3,v4,v5,v6,v7,v8,v9,inI,fits,Go.Sh.small] at *) <;> first | (exact rfl) | omega | exact vz | (simp_all; done) | (simp_all; omega)) | skip)
 case o0 =>
  intro E0 hfn hp E us le hl hr
  refine fnok_pass 1 (fun j' h => ?_) rfl hfn E us le hl hr
  match j',h with
  | 0,h=>cases h
  | 1,_=>rfl
  | n + 2,h=>simp at h
 case o1=>intro E0 _ hp h; rw [del_none h]
 case o2=>intro E0 _ hp h i _; rw [del_none h]
 all_goals (intro E0 hfn hp h; obtain ⟨f1,f2,f3,f4⟩:=first_spec h)
 case o3=>exact ⟨by omega,by omega⟩
 case o4=>show idxW ws P=((keptW ws P (firstD ws P + 1)).length:Int); rw [(kept_first h).2]; exact f1
 case o5=>show idxW ws P + 1=((firstD ws P + 1:Nat):Int); omega
 case o6=>intro i _; show _=cWay (rowW ws P (firstD ws P + 1) i); rw [rowW_first h]
 case o7=>show firstD ws P + 1<=firstD ws P + 1/\firstD ws P + 1<=ws.length; omega
 all_goals (intro x hx hl; have hk:=kept_lt h x hx.1 hx.2; simp only [decide_eq_true_eq,decide_eq_false_iff_not] at hl)
 case o11=>rw [rowW_self]
 case o12=>intro i _; rw [rowW_self]
 case o13=>rw [rowW_self]
 case o14=>intro u hu; exact hfn u hu ⟨_,getD_mem ws default (by omega)⟩
 case o16 | o17=>intro _; omega
 case o18=>intro _; exact ⟨by omega,by omega⟩
 case o20=>intro hn; rw [keptW_f (by omega) (by simpa using hn),List.length_append]; rfl
 case o22 =>
  intro hn i hi
  rw [rowW_f (by omega) (by simpa using hn)]
  exact rec_ei (fun h=>by rw [if_neg h]) (fun h=>by rw [if_pos h,rowW_self]; rfl)
 case o26=>intro hn; rw [keptW_t (by omega) (by simpa using hn)]
 case o28=>intro hn i hi; rw [rowW_t (by omega) (by simpa using hn)]
 all_goals (have e:x=ws.length:=by omega)
 case o32 | o33 | o34 | o37=>omega
 case o35 =>
  have hkf:keptW ws P x=delW ws P:=keptW_full (by omega)
  intro i hi
  rw [hkf]
  refine rec_lt (fun h=>(endA_ge h).symm) (fun h => ?_)
  rw [endA_lt h]
  unfold rowW
  rw [hkf,if_pos h]
 case o38=>rw [keptW_full (by omega)]
 case o39=>intro i hi; exact endA_lt hi
end Go.Ab
namespace Go.Sh
theorem map_getD {l:List WayS} {i:Nat} (h:i < l.length):(l.map (·.frm)).getD i []=(l.getD i default).frm:=by
 rw [Go.Ab.getD_lt _ _ (by simpa using h),Go.Ab.getD_lt _ _ h,List.getElem_map]
theorem hull_eq {l:List WayS} {F:WayS->Span} {G:List Int->Span} (hl:0 < l.length) (h:∀ w,w ∈ l->F w=G w.frm):hullOf l F=rhull (l.map (·.frm)) G:=by
 have:∀ n,n<=l.length->hullTo l F n=rhullTo (l.map (·.frm)) G n:=by
  intro n
  induction n with
  | zero =>
   intro _
   show F (l.getD 0 default)=G ((l.map (·.frm)).getD 0 [])
   rw [map_getD hl]
   exact h _ (Go.Ab.getD_mem _ default hl)
  | succ n ih =>
   intro hn
   rw [hullTo_succ,rhullTo_succ,ih (by omega),map_getD (by omega),h _ (Go.Ab.getD_mem _ default (by omega))]
 rw [hullOf,rhull,this _ (Nat.le_refl _),List.length_map]
theorem isIn_mem {l:List Int} {x:Int}:isIn l x=true ↔ x ∈ l:=by
 unfold isIn; simp
theorem sorted_ext:∀ (l m:List Int),l.Pairwise (· < ·)->m.Pairwise (· < ·)->(∀ x,x ∈ l ↔ x ∈ m)->l=m:=by
 intro l
 induction l with
 | nil =>
  intro m _ _ h
  cases m with
  | nil=>rfl
  | cons y m=>exact absurd ((h y).2 (List.mem_cons_self ..)) (by simp)
 | cons x l ih =>
  intro m hl hm h
  cases m with
  | nil=>exact absurd ((h x).1 (List.mem_cons_self ..)) (by simp)
  | cons y m =>
   obtain ⟨l1,l2⟩:=List.pairwise_cons.1 hl
   obtain ⟨m1,m2⟩:=List.pairwise_cons.1 hm
   have e:x=y:=by
    rcases List.mem_cons.1 ((h x).1 (List.mem_cons_self ..)) with e | e
    ·exact e
    ·rcases List.mem_cons.1 ((h y).2 (List.mem_cons_self ..)) with e2 | e2
     ·exact e2.symm
     ·have:=m1 x e; have:=l1 y e2; omega
   subst e
   rw [ih m l2 m2 (fun z => ?_)]
   constructor
   ·intro hz
    rcases List.mem_cons.1 ((h z).1 (List.mem_cons_of_mem _ hz)) with e | e
    ·have:=l1 z hz; omega
    ·exact e
   ·intro hz
    rcases List.mem_cons.1 ((h z).2 (List.mem_cons_of_mem _ hz)) with e | e
    ·have:=m1 z hz; omega
    ·exact e
theorem get_bang (zs:List Int) (j:Nat):zs.toArray[j]! = zs.getD j 0:=by simp [List.getD]
theorem compact_sorted {zs:List Int} (h:zs.Pairwise (· <= ·)):(compactI zs).Pairwise (· < ·) /\ ∀ x,x ∈ compactI zs ↔ x ∈ zs:=by
 have hle:∀ i j,i<=j->j < zs.length->zs.getD i 0<=zs.getD j 0:=by
  intro i j hij hj
  by_cases e:i=j
  ·subst e; exact Int.le_refl _
  ·rw [Go.Ab.getD_lt _ _ hj,Go.Ab.getD_lt _ _ (by omega)]
   exact List.pairwise_iff_getElem.1 h i j (by omega) hj (by omega)
 have key:∀ m,m<=zs.length->(Go.Lib.compactUpTo zs.toArray m).Pairwise (· < ·) /\ ∀ x,x ∈ Go.Lib.compactUpTo zs.toArray m ↔ ∃ j,j < m/\zs.getD j 0=x:=by
  intro m
  induction m with
  | zero=>intro _; exact ⟨List.Pairwise.nil,fun x=>by simp [Go.Lib.compactUpTo]⟩
  | succ m ih =>
   intro hm
   obtain ⟨h1,h2⟩:=ih (by omega)
   rw [Go.Lib.compactUpTo_succ]
   by_cases hk:Go.Lib.keeps zs.toArray m=true
   ·rw [if_pos hk,get_bang]
    refine ⟨?_,fun x => ?_⟩
    ·rw [List.pairwise_append]
     refine ⟨h1,List.pairwise_singleton _ _,fun a ha b hb => ?_⟩
     rw [List.mem_singleton] at hb
     subst hb
     obtain ⟨j,hj,rfl⟩:=(h2 a).1 ha
     have a1:=hle j (m - 1) (by omega) (by omega)
     have a2:=hle (m - 1) m (by omega) (by omega)
     have a3:zs.getD m 0 ≠ zs.getD (m - 1) 0:=by
      unfold Go.Lib.keeps at hk
      rw [get_bang,get_bang] at hk
      intro e
      rw [e] at hk
      have:m ≠ 0:=by omega
      simp [this] at hk
     omega
    ·rw [List.mem_append,List.mem_singleton,h2]
     constructor
     ·rintro (⟨j,hj,e⟩ | e)
      ·exact ⟨j,by omega,e⟩
      ·exact ⟨m,by omega,e.symm⟩
     ·rintro ⟨j,hj,e⟩
      by_cases ej:j=m
      ·subst ej; exact .inr e.symm
      ·exact .inl ⟨j,by omega,e⟩
   ·rw [if_neg hk,List.append_nil]
    refine ⟨h1,fun x => ?_⟩
    rw [h2]
    have hm0:m ≠ 0:=by
     intro e; subst e
     exact hk (Go.Lib.keeps_lt_one _ 0 (by omega))
    have he:zs.getD m 0=zs.getD (m - 1) 0:=by
     apply Classical.byContradiction
     intro hne
     apply hk
     unfold Go.Lib.keeps
     rw [get_bang,get_bang]
     exact decide_eq_true (.inr hne)
    constructor
    ·rintro ⟨j,hj,e⟩; exact ⟨j,by omega,e⟩
    ·rintro ⟨j,hj,e⟩
     by_cases ej:j=m
     ·subst ej; exact ⟨j - 1,by omega,by rw [← he]; exact e⟩
     ·exact ⟨j,by omega,e⟩
 obtain ⟨h1,h2⟩:=key zs.length (Nat.le_refl _)
 refine ⟨h1,fun x => ?_⟩
 show x ∈ Go.Lib.compactUpTo zs.toArray zs.length ↔ _
 rw [h2]
 constructor
 ·rintro ⟨j,hj,rfl⟩; exact Go.Ab.getD_mem _ 0 hj
 ·intro hx
  obtain ⟨j,hj,e⟩:=List.getElem_of_mem hx
  exact ⟨j,hj,by rw [Go.Ab.getD_lt _ _ hj]; exact e⟩
theorem sortI_sorted (l:List Int):(sortI l).Pairwise (· <= ·):=by
 have:=List.pairwise_mergeSort (le:=fun x y:Int=>decide (x<=y)) (fun a b c h1 h2=>by simp only [decide_eq_true_eq] at *; omega) (fun a b=>by simp only [Bool.or_eq_true,decide_eq_true_eq]; omega) l
 simpa [sortI] using this
theorem sortI_mem {l:List Int} {x:Int}:x ∈ sortI l ↔ x ∈ l:=(List.mergeSort_perm l _).mem_iff
theorem where_ways {r:Run} (ok:Ok r) {f:Nat} (hf:f < r.found.length):whereP (waysOf r) f=whereOf r (fromsOf r) f:=by
 obtain ⟨h1,h2⟩:=compact_sorted (sortI_sorted (wf (waysOf r) f))
 refine sorted_ext _ _ h1 ?_ fun x => ?_
 ·unfold whereOf whTo
  rw [List.pairwise_map]
  exact ((List.pairwise_lt_range).filter _).imp (fun h=>by omega)
 ·show x ∈ compactI (sortI (wf (waysOf r) f)) ↔ _
  rw [h2,sortI_mem]
  unfold whereOf whTo wf anyF
  rw [List.take_length,← ways_froms ok]
  simp only [List.mem_map,List.mem_filter,List.mem_range,List.any_eq_true,decide_eq_true_eq]
  constructor
  ·rintro ⟨w,hw,rfl⟩
   have:=way_mach ok hw hf
   refine ⟨(w.frm.getD f 0).toNat,⟨by omega,w.frm,⟨w,hw,rfl⟩,by omega⟩,by omega⟩
  ·rintro ⟨m,⟨_,y,⟨w,hw,rfl⟩,e⟩,rfl⟩
   exact ⟨w,hw,e⟩
theorem where_eq (r:Run) (f:Int):whereS r f=whereR r f:=by
 unfold whereS whereR
 rw [open_eq]
 split
 ·rename_i h0
  obtain ⟨ok,his⟩:=rf_zero h0
  simp only [isFound,Go.Sh.within_iff] at his
  exact where_ways ok (by omega)
 ·rfl
end Go.Sh
namespace Go.Sh
theorem sumTo_congr {r:Run} {f g:Nat->Span}:∀ n,n<=r.machines.length->(∀ m,m < n->f m=g m)->sumTo r f n=sumTo r g n:=by
 intro n
 induction n with
 | zero=>intro _ _; rfl
 | succ n ih =>
  intro h1 h2
  rw [sumTo_succ,sumTo_succ,ih (by omega) (fun m hm=>h2 m (by omega)),h2 n (by omega)]
theorem spread_minutes {g h:Nat->Span} {n:Nat} (hn:1<=n/\n<=3) (he:∀ p,p < n->g p=h p) (hs:∀ p,p < n->(h p).lo<=(h p).hi):spread g n=minutes h n:=by
 have h0:=he 0 (by omega)
 have s0:=hs 0 (by omega)
 have:n=1 ∨ n=2 ∨ n=3:=by omega
 rcases this with rfl | rfl | rfl
 ·simp only [spread,minutes,sprTo,minTo,minIn,sprIn,List.range_succ,List.range_zero,List.nil_append,List.foldl_cons,List.foldl_nil,if_true,h0]
  congr 1 <;> omega
 ·have h1:=he 1 (by omega)
  have s1:=hs 1 (by omega)
  simp only [spread,minutes,sprTo,minTo,minIn,sprIn,List.range_succ,List.range_zero,List.nil_append,List.cons_append,List.foldl_cons,List.foldl_nil,if_true,h0,h1]
  simp only [show ¬ (0:Nat)=1 by omega,show ¬ (1:Nat)=0 by omega,if_false]
  congr 1 <;> omega
 ·have h1:=he 1 (by omega)
  have s1:=hs 1 (by omega)
  have h2:=he 2 (by omega)
  have s2:=hs 2 (by omega)
  simp only [spread,minutes,sprTo,minTo,minIn,sprIn,List.range_succ,List.range_zero,List.nil_append,List.cons_append,List.foldl_cons,List.foldl_nil,if_true,h0,h1,h2]
  simp only [show ¬ (0:Nat)=1 by omega,show ¬ (1:Nat)=0 by omega,show ¬ (0:Nat)=2 by omega,show ¬ (2:Nat)=0 by omega,show ¬ (1:Nat)=2 by omega,show ¬ (2:Nat)=1 by omega,if_false]
  congr 1 <;> omega
theorem way_spread {r:Run} (ok:Ok r) {w:WayS} (hw:w ∈ waysOf r) {m:Nat} (hm:m < r.machines.length):spread (w.whn m) r.plates.toNat=minutes (spanOf r w.frm m) r.plates.toNat:=by
 have hp:=ok.plates
 have h:=way_ok ok hw
 exact spread_minutes (by omega) (fun p hlt=>h.2 m hm p (by omega)) (fun p hlt=>(canBe_iff ok).1 h.1 m hm p (by omega))
theorem way_mix {r:Run} (ok:Ok r) {w:WayS} (hw:w ∈ waysOf r):mixF r w=mixL r w.frm:=sumTo_congr _ (Nat.le_refl _) fun _ hm=>way_spread ok hw hm
theorem minutes_le {h:Nat->Span} {n:Nat} (hn:1<=n/\n<=3) (hs:∀ p,p < n->(h p).lo<=(h p).hi):(minutes h n).lo<=(minutes h n).hi:=by
 have s0:=hs 0 (by omega)
 have:n=1 ∨ n=2 ∨ n=3:=by omega
 rcases this with rfl | rfl | rfl
 ·simp only [minutes,minTo,minIn,List.range_succ,List.range_zero,List.nil_append,List.foldl_cons,List.foldl_nil,if_true]
  omega
 ·have s1:=hs 1 (by omega)
  simp only [minutes,minTo,minIn,List.range_succ,List.range_zero,List.nil_append,List.cons_append,List.foldl_cons,List.foldl_nil,if_true]
  simp only [show ¬ (0:Nat)=1 by omega,show ¬ (1:Nat)=0 by omega,if_false]
  omega
 ·have s1:=hs 1 (by omega)
  have s2:=hs 2 (by omega)
  simp only [minutes,minTo,minIn,List.range_succ,List.range_zero,List.nil_append,List.cons_append,List.foldl_cons,List.foldl_nil,if_true]
  simp only [show ¬ (0:Nat)=1 by omega,show ¬ (1:Nat)=0 by omega,show ¬ (0:Nat)=2 by omega,show ¬ (2:Nat)=0 by omega,show ¬ (1:Nat)=2 by omega,show ¬ (2:Nat)=1 by omega,if_false]
  omega
end Go.Sh
namespace Go.Sh
def rated (t:Int) (m:Mach):Mach:=⟨m.changes,Go.Ab.wr (m.rate * t)⟩
def ratedR (r:Run) (t:Int):Run:=⟨r.plates,r.last,r.machines.map (rated t),r.found⟩
theorem spanTo_narrow (r:Run) (l:List Int) (m p:Nat):∀ n,(chg (mach r m) p).lo<=(spanTo r l m p n).lo/\(spanTo r l m p n).hi<=(chg (mach r m) p).hi:=by
 intro n
 induction n with
 | zero=>exact ⟨Int.le_refl _,Int.le_refl _⟩
 | succ n ih =>
  rw [spanTo_succ]
  unfold spanStep
  split
  ·split
   ·exact ⟨ih.1,Int.le_trans (Int.min_le_left _ _) ih.2⟩
   ·split
    ·exact ⟨Int.le_trans ih.1 (Int.le_max_left _ _),ih.2⟩
    ·exact ih
  ·exact ih
def hb (s:Span):Prop:=0<=s.lo/\s.lo<=s.hi/\s.hi<=30
theorem way_hb {r:Run} (ok:Ok r) {w:WayS} (hw:w ∈ waysOf r) {m p:Nat} (hm:m < r.machines.length) (hp:(p:Int) < r.plates):hb (w.whn m p):=by
 have h:=way_ok ok hw
 have h1:=ok.mach m hm
 have h2:=ok.span m hm p (by omega)
 have h3:=spanTo_narrow r w.frm m p w.frm.length
 have h4:=(canBe_iff ok).1 h.1 m hm p hp
 have h5:=ok.last
 rw [h.2 m hm p hp]
 unfold spanOf at h4 ⊢
 exact ⟨by omega,h4,by omega⟩
theorem sum_hb {r:Run} (ok:Ok r) {f:Nat->Span} (hf:∀ m,m < r.machines.length->hb (f m)):∀ n,n<=r.machines.length->0<=(sumTo r f n).lo/\(sumTo r f n).lo<=(sumTo r f n).hi/\(sumTo r f n).hi<=270 * n:=by
 intro n
 induction n with
 | zero=>intro _; simp [sumTo]
 | succ n ih =>
  intro hn
  have h1:=ih (by omega)
  have h2:=(ok.mach n (by omega)).2
  have h3:=hf n (by omega)
  rw [sumTo_succ]
  have a1:=Int.mul_nonneg h2.1 h3.1
  have a2:=Int.mul_le_mul_of_nonneg_left h3.2.1 h2.1
  have a3:(mach r n).rate * (f n).hi<=9 * 30:=Int.mul_le_mul h2.2 h3.2.2 (Int.le_trans h3.1 h3.2.1) (by decide)
  simp only
  omega
theorem hull_in {l:List WayS} {F:WayS->Span} {k:Int} (hl:0 < l.length) (h:∀ w,w ∈ l->0<=(F w).lo/\(F w).lo<=(F w).hi/\(F w).hi<=k):0<=(hullOf l F).lo/\(hullOf l F).lo<=(hullOf l F).hi/\(hullOf l F).hi<=k:=by
 have:∀ n,n<=l.length->0<=(hullTo l F n).lo/\(hullTo l F n).lo<=(hullTo l F n).hi/\(hullTo l F n).hi<=k:=by
  intro n
  induction n with
  | zero=>intro _; exact h _ (Go.Ab.getD_mem _ default hl)
  | succ n ih =>
   intro hn
   have h1:=ih (by omega)
   have h2:=h _ (Go.Ab.getD_mem l default (show n < l.length by omega))
   rw [hullTo_succ]
   simp only [hull2]
   omega
 exact this _ (Nat.le_refl _)
theorem minutes_hb {h:Nat->Span} {n:Nat} (hn:1<=n/\n<=3) (hs:∀ p,p < n->hb (h p)):hb (minutes h n):=by
 have hle:=minutes_le hn fun p hp=>(hs p hp).2.1
 have s0:=hs 0 (by omega)
 have:n=1 ∨ n=2 ∨ n=3:=by omega
 unfold hb at *
 rcases this with rfl | rfl | rfl
 ·refine ⟨?_,hle,?_⟩ <;> (simp only [minutes,minTo,minIn,List.range_succ,List.range_zero,List.nil_append,List.foldl_cons,List.foldl_nil,if_true]; omega)
 ·have s1:=hs 1 (by omega)
  refine ⟨?_,hle,?_⟩ <;> (simp only [minutes,minTo,minIn,List.range_succ,List.range_zero,List.nil_append,List.cons_append,List.foldl_cons,List.foldl_nil,if_true]; simp only [show ¬ (0:Nat)=1 by omega,show ¬ (1:Nat)=0 by omega,if_false]; omega)
 ·have s1:=hs 1 (by omega)
  have s2:=hs 2 (by omega)
  refine ⟨?_,hle,?_⟩ <;> (simp only [minutes,minTo,minIn,List.range_succ,List.range_zero,List.nil_append,List.cons_append,List.foldl_cons,List.foldl_nil,if_true]; simp only [show ¬ (0:Nat)=1 by omega,show ¬ (1:Nat)=0 by omega,show ¬ (0:Nat)=2 by omega,show ¬ (2:Nat)=0 by omega,show ¬ (1:Nat)=2 by omega,show ¬ (2:Nat)=1 by omega,if_false]; omega)
structure RatesF (r:Run) (t p:Int):Prop where
 ok:Ok r
 tt:0<=t/\t<=9
 e1:openE r (isPlate r p)=0
 e2:openE (ratedR r t) (isPlate (ratedR r t) p)=0
 e3:openE r true=0
 e4:openE (ratedR r t) true=0
 old:0<=(oldS r p).lo/\(oldS r p).lo<=(oldS r p).hi/\(oldS r p).hi<=810
 mix:0<=(mixesS r).lo/\(mixesS r).lo<=(mixesS r).hi/\(mixesS r).hi<=810
 old2:oldS (ratedR r t) p=⟨(oldS r p).lo * t,(oldS r p).hi * t⟩
 mix2:mixesS (ratedR r t)=⟨(mixesS r).lo * t,(mixesS r).hi * t⟩
end Go.Sh
namespace Go.Sh
theorem mem_whereP {l:List WayS} {f:Nat} {v:Int}:v ∈ whereP l f ↔ ∃ w,w ∈ l/\w.frm.getD f 0=v:=by
 obtain ⟨h1,h2⟩:=compact_sorted (sortI_sorted (wf l f))
 show v ∈ compactI (sortI (wf l f)) ↔ _
 rw [h2,sortI_mem]
 unfold wf
 rw [List.mem_map]
theorem mem_delW {l:List WayS} {f:Nat} {m:Int} {w:WayS}:w ∈ delW l (ofM f m) ↔ w ∈ l/\w.frm.getD f 0=m:=by
 unfold delW ofM
 rw [List.mem_filter]
 simp
theorem delW_pos {l:List WayS} {f i:Nat} (h:i < (whereP l f).length):0 < (delW l (ofM f ((whereP l f).getD i 0))).length:=by
 obtain ⟨w,hw,e⟩:=mem_whereP.1 (Go.Ab.getD_mem (whereP l f) 0 h)
 exact List.length_pos_of_mem (mem_delW.2 ⟨hw,e⟩)
theorem mixOf_in {r:Run} (ok:Ok r) {l:List WayS} (hl:0 < l.length) (h:∀ w,w ∈ l->w ∈ waysOf r):0<=(hullOf l (mixF r)).lo/\(hullOf l (mixF r)).lo<=(hullOf l (mixF r)).hi/\(hullOf l (mixF r)).hi<=810:=by
 have hpl:=ok.plates
 have hml:=ok.machines
 refine hull_in hl fun w hw => ?_
 have hw:=h w hw
 have:=sum_hb ok (f:=fun m=>spread (w.whn m) r.plates.toNat) (fun m hm=>by
  rw [way_spread ok hw hm]
  exact minutes_hb (by omega) fun q hq=>by
   have:=(way_ok ok hw).2 m hm q (by omega)
   rw [← this]; exact way_hb ok hw hm (by omega)) _ (Nat.le_refl _)
 show 0<=(sumTo r _ _).lo/\(sumTo r _ _).lo<=(sumTo r _ _).hi/\(sumTo r _ _).hi<=810
 omega
theorem seekTP_skip {r:Run} {l:List WayS} {c:Nat} (h:((whereP l c).length:Int) < 2):seekTP r l (c + 1)=seekTP r l c:=seek_skip (by omega)
theorem seekTP_t {r:Run} {l:List WayS} {c:Nat} (h:¬ ((whereP l c).length:Int) < 2) (h2:(seekTP r l c).1 < 0 ∨ worst (fun m=>mixOf r l c m) (whereP l c) < (seekTP r l c).2):seekTP r l (c + 1)=((c:Int),worst (fun m=>mixOf r l c m) (whereP l c)):=seek_t (by omega) h2
theorem seekTP_f {r:Run} {l:List WayS} {c:Nat} (h:¬ ((whereP l c).length:Int) < 2) (h2:¬ ((seekTP r l c).1 < 0 ∨ worst (fun m=>mixOf r l c m) (whereP l c) < (seekTP r l c).2)):seekTP r l (c + 1)=seekTP r l c:=seek_f (by omega) h2
theorem seek_b {r:Run} {l:List WayS} {c:Nat} {k:Int} {b:Bool} (h:(bif decide ((seekTP r l c).1 < 0) then true else decide (k < (seekTP r l c).2))=b):b=true ↔ ((seekTP r l c).1 < 0 ∨ k < (seekTP r l c).2):=by
 subst h
 by_cases h1:(seekTP r l c).1 < 0
 ·simp [h1]
 ·simp [h1]
theorem seekP_bad {r:Run} (h:openE r true ≠ 0):seekP r=(0,openE r true):=by rw [seekP,if_neg h]
theorem worst_congr {mx mx':Int->Span} {w:List Int} (h:∀ v,v ∈ w->mx v=mx' v):worst mx w=worst mx' w:=by
 have:∀ n,n<=w.length->worstTo mx w n=worstTo mx' w n:=by
  intro n
  induction n with
  | zero=>intro _; rfl
  | succ n ih=>intro hn; rw [worstTo_succ,worstTo_succ,ih (by omega),h _ (Go.Ab.getD_mem w 0 (by omega))]
 exact this _ (Nat.le_refl _)
end Go.Sh
namespace Go.Ab
open Go Go.RowKit Go.Proofs Go.Sh Go.En
def s54 (r:Run):CallSpec:={ args:=[vRun r],res := .tup [iv (seekP r).1,iv (seekP r).2],pre:=fits r }
def h54a (r:Run):Hint:={ X:=Nat,M:=fun c=>[(6,iv (seekTP r (openL r true) c).1),(7,iv (seekTP r (openL r true) c).2),(25,iv c)],I:=fun c=>c<=r.found.length,mu:=fun c=>r.found.length - c,x0:=(0:Nat),nx:=fun c=>c + 1 }
def h54b (r:Run) (c:Nat):Hint:={ X:=Nat,M:=fun i=>[(10,iv (worstTo (fun m=>mixOf r (openL r true) c m) (whereP (openL r true) c) i)),(36,iv i)],I:=fun i=>i<=(whereP (openL r true) c).length,mu:=fun i=>(whereP (openL r true) c).length - i,x0:=(0:Nat),nx:=fun i=>i + 1 }
def c54a (r:Run) (c:Nat):CallSpec:=s90 (openL r true) c
def c54b (r:Run) (c i:Nat) (id:Nat):CallSpec:=s95o (openL r true) id
def c54c (r:Run) (c i:Nat):CallSpec:=s94 20320 (openL r true) (ofM c ((whereP (openL r true) c).getD i 0))
def c54d (r:Run) (c i:Nat):CallSpec:=s84 r (delW (openL r true) (ofM c ((whereP (openL r true) c).getD i 0)))
end Go.Ab
namespace Go.Ab
open Go Go.RowKit Go.Proofs Go.Sh Go.En
abbrev z54_1 (r:Run) (x2:Nat):LoopAnn:=Hint.ann (h54b r x2) [(1,AV.ptr 0 []),(4,aWays (openL r true)),(24,iv (↑(r.found.length):Int)),(6,iv (seekTP r (openL r true) x2).1),(7,iv (seekTP r (openL r true) x2).2),(25,iv (x2:Int)),(8,AV.rp [iv (x2:Int)]),(34,aInts (whereP (openL r true) x2)),(35,iv (↑((whereP (openL r true) x2).length):Int))] [(0,OB.cells 25 (cRun r))] 20264
abbrev z54_2 (r:Run):LoopAnn:=Hint.ann (h54a r) [(1,AV.ptr 0 []),(4,aWays (openL r true)),(24,iv (↑(r.found.length):Int))] [(0,OB.cells 25 (cRun r))] 10144
abbrev q54_1 (r:Run) (C:Prop):Prop:=fits r->(!decide (openE r true=0))=false->C
abbrev q54_2 (r:Run) (C:Nat->Prop):Prop:=q54_1 r (∀ (x2:Nat),x2<=r.found.length->decide ((x2:Int) < (↑(r.found.length):Int))=true->C x2)
abbrev q54_3 (r:Run) (C:Nat->Prop):Prop:=q54_2 r fun x2=>decide ((↑((whereP (openL r true) x2).length):Int) < 2)=true->C x2
abbrev q54_4 (r:Run) (C:Nat->Prop):Prop:=q54_2 r fun x2=>decide ((↑((whereP (openL r true) x2).length):Int) < 2)=false->C x2
abbrev q54_5 (r:Run) (C:Nat->Nat->Prop):Prop:=q54_4 r fun x2 => ∀ (x8:Nat),x8<=(whereP (openL r true) x2).length->decide ((x8:Int) < (↑((whereP (openL r true) x2).length):Int))=true->C x2 x8
abbrev q54_6 (r:Run) (C:Nat->Nat->Prop):Prop:=q54_4 r fun x2 => ∀ (x8:Nat),x8<=(whereP (openL r true) x2).length->decide ((x8:Int) < (↑((whereP (openL r true) x2).length):Int))=false->C x2 x8
abbrev q54_7 (r:Run) (C:Nat->Nat->Prop):Prop:=q54_6 r fun x2 x8=>(bif decide ((seekTP r (openL r true) x2).1 < 0) then true else decide (worstTo (fun (m:Int)=>mixOf r (openL r true) x2 m) (whereP (openL r true) x2) x8 < (seekTP r (openL r true) x2).2))=true->C x2 x8
abbrev q54_8 (r:Run) (C:Nat->Nat->Prop):Prop:=q54_6 r fun x2 x8=>(bif decide ((seekTP r (openL r true) x2).1 < 0) then true else decide (worstTo (fun (m:Int)=>mixOf r (openL r true) x2 m) (whereP (openL r true) x2) x8 < (seekTP r (openL r true) x2).2))=false->C x2 x8
abbrev q54_9 (r:Run) (C:Nat->Prop):Prop:=q54_1 r (∀ (x2:Nat),x2<=r.found.length->decide ((x2:Int) < (↑(r.found.length):Int))=false->decide ((seekTP r (openL r true) x2).1 < 0)=true->C x2)
abbrev q54_10 (r:Run) (C:Nat->Prop):Prop:=q54_1 r (∀ (x2:Nat),x2<=r.found.length->decide ((x2:Int) < (↑(r.found.length):Int))=false->decide ((seekTP r (openL r true) x2).1 < 0)=false->C x2)
theorem w54 (r:Run)
 (o0:fits r->(!decide (openE r true=0))->0=(seekP r).1)
 (o1:fits r->(!decide (openE r true=0))->openE r true=(seekP r).2)
 (o2:q54_1 r (-1=(seekTP r (openL r true) 0).1))
 (o3:q54_1 r (0=(seekTP r (openL r true) 0).2))
 (o4:q54_1 r (0=(↑0:Int)))
 (o5:q54_1 r (0<=r.found.length))
 (o6:q54_2 r fun x2=>0 < (openL r true).length)
 (o7:q54_2 r fun x2=>(openL r true).length<=729)
 (o8:q54_2 r fun x2 => ∀ (i4:Nat),i4 < (openL r true).length->x2 < ((openL r true).getD i4 default).frm.length)
 (o9:q54_3 r fun x2=>inI ((x2:Int) + 1))
 (o10:q54_3 r fun x2=>(seekTP r (openL r true) x2).1=(seekTP r (openL r true) (x2 + 1)).1)
 (o11:q54_3 r fun x2=>(seekTP r (openL r true) x2).2=(seekTP r (openL r true) (x2 + 1)).2)
 (o12:q54_3 r fun x2=>(x2:Int) + 1=(↑(x2 + 1):Int))
 (o13:q54_3 r fun x2=>x2 + 1<=r.found.length)
 (o14:q54_3 r fun x2=>r.found.length - (x2 + 1) < r.found.length - x2)
 (o15:q54_4 r fun x2=>0=worstTo (fun (m:Int)=>mixOf r (openL r true) x2 m) (whereP (openL r true) x2) 0)
 (o16:q54_4 r fun x2=>0=(↑0:Int))
 (o17:q54_4 r fun x2=>0<=(whereP (openL r true) x2).length)
 (o18:q54_5 r fun x2 x8=>0<=(x8:Int))
 (o19:q54_5 r fun x2 x8=>(x8:Int) < (↑((whereP (openL r true) x2).length):Int))
 (o20:q54_5 r fun x2 x8=>0 < (openL r true).length)
 (o21:q54_5 r fun x2 x8=>(openL r true).length<=65536)
 (o22:q54_5 r fun x2 x8=>0 < (openL r true).length)
 (o23:q54_5 r fun x2 x8=>(openL r true).length<=65536)
 (o24:∀ (E0:Env),fits r->(!decide (openE r true=0))=false -> ∀ (x2:Nat),x2<=r.found.length->decide ((x2:Int) < (↑(r.found.length):Int))=true->decide ((↑((whereP (openL r true) x2).length):Int) < 2)=false -> ∀ (x8:Nat),x8<=(whereP (openL r true) x2).length->decide ((x8:Int) < (↑((whereP (openL r true) x2).length):Int))=true -> ∀ (i11:Env) (i12:List Value),Env.le E0 i11->i12.length=2->(∀ (k:Nat),Rel i11 true (List.getD [AV.vec 20320,AV.clo 96 [AV.rp [iv (x2:Int)],AV.rp [iv ((whereP (openL r true) x2).getD x8 0)]]] k AV.any) (i12.getD k undef))->fnokOf Try.prog 0 (fun (w:{ w:WayS // w ∈ openL r true })=>[AV.agg (cWay (Subtype.val w))]) (fun (w:{ w:WayS // w ∈ openL r true })=>bv (ofM x2 ((whereP (openL r true) x2).getD x8 0) (Subtype.val w))) (Env.mk i11.1 i11.2 i11.3 fun (k:Nat) (u:Value) => ∃ (i:Nat),[AV.vec 20320,AV.fn 0][i]? = some (AV.fn k)/\i12[i]? = some u))
 (o25:q54_5 r fun x2 x8=>rb r)
 (o26:q54_5 r fun x2 x8 => ∀ (i18:WayS),i18 ∈ delW (openL r true) (ofM x2 ((whereP (openL r true) x2).getD x8 0))->wb i18)
 (o27:q54_5 r fun x2 x8=>1<=r.plates)
 (o28:q54_5 r fun x2 x8=>r.plates<=3)
 (o29:q54_5 r fun x2 x8=>0 < (delW (openL r true) (ofM x2 ((whereP (openL r true) x2).getD x8 0))).length)
 (o30:q54_5 r fun x2 x8=>(delW (openL r true) (ofM x2 ((whereP (openL r true) x2).getD x8 0))).length<=65536)
 (o31:q54_5 r fun x2 x8=>inI ((hullOf (delW (openL r true) (ofM x2 ((whereP (openL r true) x2).getD x8 0))) (mixF r)).hi - (hullOf (delW (openL r true) (ofM x2 ((whereP (openL r true) x2).getD x8 0))) (mixF r)).lo))
 (o32:q54_5 r fun x2 x8=>inI ((x8:Int) + 1))
 (o33:q54_5 r fun x2 x8=>max (worstTo (fun (m:Int)=>mixOf r (openL r true) x2 m) (whereP (openL r true) x2) x8) ((hullOf (delW (openL r true) (ofM x2 ((whereP (openL r true) x2).getD x8 0))) (mixF r)).hi - (hullOf (delW (openL r true) (ofM x2 ((whereP (openL r true) x2).getD x8 0))) (mixF r)).lo)=worstTo (fun (m:Int)=>mixOf r (openL r true) x2 m) (whereP (openL r true) x2) (x8 + 1))
 (o34:q54_5 r fun x2 x8=>(x8:Int) + 1=(↑(x8 + 1):Int))
 (o35:q54_5 r fun x2 x8=>x8 + 1<=(whereP (openL r true) x2).length)
 (o36:q54_5 r fun x2 x8=>(whereP (openL r true) x2).length - (x8 + 1) < (whereP (openL r true) x2).length - x8)
 (o37:q54_6 r fun x2 x8=>decide ((seekTP r (openL r true) x2).1 < 0)=false->(!decide ((seekTP r (openL r true) x2).1 < 0))=true)
 (o38:q54_7 r fun x2 x8=>inI ((x2:Int) + 1))
 (o39:q54_7 r fun x2 x8=>(x2:Int)=(seekTP r (openL r true) (x2 + 1)).1)
 (o40:q54_7 r fun x2 x8=>worstTo (fun (m:Int)=>mixOf r (openL r true) x2 m) (whereP (openL r true) x2) x8=(seekTP r (openL r true) (x2 + 1)).2)
 (o41:q54_7 r fun x2 x8=>(x2:Int) + 1=(↑(x2 + 1):Int))
 (o42:q54_7 r fun x2 x8=>x2 + 1<=r.found.length)
 (o43:q54_7 r fun x2 x8=>r.found.length - (x2 + 1) < r.found.length - x2)
 (o44:q54_8 r fun x2 x8=>inI ((x2:Int) + 1))
 (o45:q54_8 r fun x2 x8=>(seekTP r (openL r true) x2).1=(seekTP r (openL r true) (x2 + 1)).1)
 (o46:q54_8 r fun x2 x8=>(seekTP r (openL r true) x2).2=(seekTP r (openL r true) (x2 + 1)).2)
 (o47:q54_8 r fun x2 x8=>(x2:Int) + 1=(↑(x2 + 1):Int))
 (o48:q54_8 r fun x2 x8=>x2 + 1<=r.found.length)
 (o49:q54_8 r fun x2 x8=>r.found.length - (x2 + 1) < r.found.length - x2)
 (o50:q54_9 r fun x2=>0=(seekP r).1)
 (o51:q54_9 r fun x2=>3=(seekP r).2)
 (o52:q54_10 r fun x2=>(seekTP r (openL r true) x2).1=(seekP r).1)
 (o53:q54_10 r fun x2=>0=(seekP r).2) :
  Triple Try.prog 54 (s54 r):=by
 refine triple_of Try.func54 rfl Try.call54 T0_ok _ rfl rfl rfl rfl (Nat.le_of_ble_eq_true (by kernel_rfl)) (fun _ _ _ _ h=>h) ?_
 intro hp C hC _ hE
 obtain ⟨P,w0,E0,av,hA⟩:=C
 subst hC
 refine swp_seq ?_
 refine sQ (kt:=[1]) (kh:=[0]) (q:=tn 3) (st':=ASt.mk [(1,.ptr 0 [])] [(0,.cells 25 (cRun r))] 24) (tp 3) ?_
 refine swp_seq ?_
 refine sC (cs:=[(1,CallSpec.eq (s78 r true) [true,true])]) (kt:=[1,4,5]) (kh:=[0]) (q:=True/\((zE (AV.agg (cRun r))/\zE (bv true)/\True)/\Triple Try.prog 78 (s78 r true)/\fits r/\True /\ ∀ (i0:Env),True)/\tn 5) (st':=ASt.mk [(1,.ptr 0 []),(4,aWays (openL r true)),(5,iv (openE r true))] [(0,.cells 25 (cRun r))] 80) ⟨tv,⟨⟨rfl,rfl,tv⟩,(t78 (r) (true)),hp,tv,(fun i0=>tv)⟩,tp 5⟩ ?_
 refine swp_seq (swp_seq ?_)
 refine sQ (kt:=[1,4,5,20]) (kh:=[0]) (q:=tn 2) (st':=ASt.mk [(1,.ptr 0 []),(4,aWays (openL r true)),(5,iv (openE r true)),(20,bv !decide (openE r true=0))] [(0,.cells 25 (cRun r))] 96) (tp 2) ?_
 refine swp_cond (!decide (openE r true=0)) (by kernel_rfl) (fun h1 => ?_) (fun h1 => ?_)
 ·refine swp_seq ?_
  refine sQ (kt:=[2,3]) (kh:=[]) (q:=tn 3) (st':=ASt.mk [(2,iv 0),(3,iv (openE r true))] [] 120) (tp 3) ?_
  refine swp_ret ?_
  exact rQ [] ((True/\True/\True)/\((zN (iv 0) (iv (seekP r).1))/\(zN (iv (openE r true)) (iv (seekP r).2))/\True)/\T3) ⟨⟨tv,tv,tv⟩,⟨⟨(congrArg iv (o0 hp h1)),rfl⟩,⟨(congrArg iv (o1 hp h1)),rfl⟩,tv⟩,rfl,rfl,rfl⟩
 ·refine swp_skip (swp_seq ?_)
  refine sQ (kt:=[1,4,6,7]) (kh:=[0]) (q:=tn 2) (st':=ASt.mk [(1,.ptr 0 []),(4,aWays (openL r true)),(6,iv (-1)),(7,iv 0)] [(0,.cells 25 (cRun r))] 112) (tp 2) ?_
  refine swp_seq (swp_seq ?_)
  refine sQ (kt:=[1,4,6,7,24,25]) (kh:=[0]) (q:=tn 4) (st':=ASt.mk [(1,.ptr 0 []),(4,aWays (openL r true)),(6,iv (-1)),(7,iv 0),(24,iv (↑(r.found.length):Int)),(25,iv 0)] [(0,.cells 25 (cRun r))] 144) (tp 4) ?_
  refine swp_block ?_
  refine swp_loopA (z54_2 r) (eQ hE [] [(0,.same 0)] [4,24] [0] (((zP 0)/\(zT (aWays (openL r true)))/\(zT (iv (↑(r.found.length):Int)))/\(zN (iv (-1)) (iv (seekTP r (openL r true) 0).1))/\(zN (iv 0) (iv (seekTP r (openL r true) 0).2))/\(zN (iv 0) (iv (↑0:Int)))/\True)/\((zT (OB.cells 25 (cRun r)))/\True)/\T2) ⟨⟨⟨rfl,rfl⟩,⟨rfl,rfl⟩,⟨rfl,rfl⟩,⟨(congrArg iv (o2 hp h1)),rfl⟩,⟨(congrArg iv (o3 hp h1)),rfl⟩,⟨(congrArg iv (o4 hp h1)),rfl⟩,tv⟩,⟨⟨rfl,rfl⟩,tv⟩,rfl,rfl⟩) (o5 hp h1) (fun (x2:Nat) hx2 => ?_)
  refine swp_seq ?_
  refine sQ (kt:=[1,4,24,6,7,25,26]) (kh:=[0]) (q:=True/\True) (st':=ASt.mk [(1,.ptr 0 []),(4,aWays (openL r true)),(24,iv (↑(r.found.length):Int)),(6,iv (seekTP r (openL r true) x2).1),(7,iv (seekTP r (openL r true) x2).2),(25,iv (x2:Int)),(26,bv (decide ((x2:Int) < (↑(r.found.length):Int))))] [(0,.cells 25 (cRun r))] 10152) ⟨tv,tv⟩ ?_
  refine swp_seq ?_
  refine swp_cond (decide ((x2:Int) < (↑(r.found.length):Int))) (by kernel_rfl) (fun h3 => ?_) (fun h3 => ?_)
  ·refine swp_skip (swp_seq (swp_block (swp_seq ?_)))
   refine sQ (kt:=[1,4,24,6,7,25,8]) (kh:=[0,10160]) (q:=tn 3) (st':=ASt.mk [(1,.ptr 0 []),(4,aWays (openL r true)),(24,iv (↑(r.found.length):Int)),(6,iv (seekTP r (openL r true) x2).1),(7,iv (seekTP r (openL r true) x2).2),(25,iv (x2:Int)),(8,.ptr 10160 [])] [(0,.cells 25 (cRun r)),(10160,.cells 3 [iv (x2:Int)])] 10176) (tp 3) ?_
   refine swp_seq ?_
   refine sC (cs:=[(2,CallSpec.eq (c54a r x2) [true,true])]) (kt:=[1,4,24,6,7,25,8,9]) (kh:=[0,10160]) (q:=True/\True/\((zE (aWays (openL r true))/\zE (iv (x2:Int))/\True)/\Triple Try.prog 90 (c54a r x2)/\(0 < (openL r true).length/\(openL r true).length<=729 /\ ∀ (i4:Nat),i4 < (openL r true).length->x2 < ((openL r true).getD i4 default).frm.length)/\True /\ ∀ (i6:Env),True)/\True/\True) (st':=ASt.mk [(1,.ptr 0 []),(4,aWays (openL r true)),(24,iv (↑(r.found.length):Int)),(6,iv (seekTP r (openL r true) x2).1),(7,iv (seekTP r (openL r true) x2).2),(25,iv (x2:Int)),(8,.ptr 10160 []),(9,aInts (whereP (openL r true) x2))] [(0,.cells 25 (cRun r)),(10160,.cells 3 [iv (x2:Int)])] 10208) ⟨tv,tv,⟨⟨rfl,rfl,tv⟩,(t90 _ _),⟨(o6 hp h1 x2 hx2 h3),(o7 hp h1 x2 hx2 h3),(fun i4=>(fun h5=>(o8 hp h1 x2 hx2 h3 i4 h5)))⟩,tv,(fun i6=>tv)⟩,tv,tv⟩ ?_
   refine swp_seq (swp_seq ?_)
   refine sQ (kt:=[1,4,24,6,7,25,8,9,33]) (kh:=[0,10160]) (q:=tn 3) (st':=ASt.mk [(1,.ptr 0 []),(4,aWays (openL r true)),(24,iv (↑(r.found.length):Int)),(6,iv (seekTP r (openL r true) x2).1),(7,iv (seekTP r (openL r true) x2).2),(25,iv (x2:Int)),(8,.ptr 10160 []),(9,aInts (whereP (openL r true) x2)),(33,bv (decide ((↑((whereP (openL r true) x2).length):Int) < 2)))] [(0,.cells 25 (cRun r)),(10160,.cells 3 [iv (x2:Int)])] 10232) (tp 3) ?_
   refine swp_cond (decide ((↑((whereP (openL r true) x2).length):Int) < 2)) (by kernel_rfl) (fun h7 => ?_) (fun h7 => ?_)
   ·refine swp_exit ?_
    refine sQ (kt:=[1,4,24,6,7,25]) (kh:=[0]) (q:=inI ((x2:Int) + 1)/\True/\True) (st':=ASt.mk [(1,.ptr 0 []),(4,aWays (openL r true)),(24,iv (↑(r.found.length):Int)),(6,iv (seekTP r (openL r true) x2).1),(7,iv (seekTP r (openL r true) x2).2),(25,iv ((x2:Int) + 1))] [(0,.cells 25 (cRun r))] 10248) ⟨(o9 hp h1 x2 hx2 h3 h7),tv,tv⟩ ?_
    exact loop_next (z54_2 r) x2 (eQ hE [] [(0,.same 0)] [4,24] [0] (((zP 0)/\(zT (aWays (openL r true)))/\(zT (iv (↑(r.found.length):Int)))/\(zN (iv (seekTP r (openL r true) x2).1) (iv (seekTP r (openL r true) (x2 + 1)).1))/\(zN (iv (seekTP r (openL r true) x2).2) (iv (seekTP r (openL r true) (x2 + 1)).2))/\(zN (iv ((x2:Int) + 1)) (iv (↑(x2 + 1):Int)))/\True)/\((zT (OB.cells 25 (cRun r)))/\True)/\T2) ⟨⟨⟨rfl,rfl⟩,⟨rfl,rfl⟩,⟨rfl,rfl⟩,⟨(congrArg iv (o10 hp h1 x2 hx2 h3 h7)),rfl⟩,⟨(congrArg iv (o11 hp h1 x2 hx2 h3 h7)),rfl⟩,⟨(congrArg iv (o12 hp h1 x2 hx2 h3 h7)),rfl⟩,tv⟩,⟨⟨rfl,rfl⟩,tv⟩,rfl,rfl⟩) (o13 hp h1 x2 hx2 h3 h7) (o14 hp h1 x2 hx2 h3 h7)
   ·refine swp_skip (swp_seq ?_)
    refine swp_ent (ent_fz 10160 3 ([iv (x2:Int)]) (ASt.mk [(1,AV.ptr 0 []),(4,aWays (openL r true)),(24,iv (↑(r.found.length):Int)),(6,iv (seekTP r (openL r true) x2).1),(7,iv (seekTP r (openL r true) x2).2),(25,iv (x2:Int)),(8,AV.rp [iv (x2:Int)]),(9,aInts (whereP (openL r true) x2)),(33,bv (decide ((↑((whereP (openL r true) x2).length):Int) < 2)))] [(0,OB.cells 25 (cRun r))] 10232) (by kernel_rfl) (by kernel_rfl) (by kernel_rfl)) ?_
    refine sQ (kt:=[1,4,24,6,7,25,8,9,10]) (kh:=[0]) (q:=True/\True) (st':=ASt.mk [(1,.ptr 0 []),(4,aWays (openL r true)),(24,iv (↑(r.found.length):Int)),(6,iv (seekTP r (openL r true) x2).1),(7,iv (seekTP r (openL r true) x2).2),(25,iv (x2:Int)),(8,.rp [iv (x2:Int)]),(9,aInts (whereP (openL r true) x2)),(10,iv 0)] [(0,.cells 25 (cRun r))] 10240) ⟨tv,tv⟩ ?_
    refine swp_seq (swp_seq ?_)
    refine sQ (kt:=[1,4,24,6,7,25,8,10,34,35,36]) (kh:=[0]) (q:=tn 3) (st':=ASt.mk [(1,.ptr 0 []),(4,aWays (openL r true)),(24,iv (↑(r.found.length):Int)),(6,iv (seekTP r (openL r true) x2).1),(7,iv (seekTP r (openL r true) x2).2),(25,iv (x2:Int)),(8,.rp [iv (x2:Int)]),(10,iv 0),(34,aInts (whereP (openL r true) x2)),(35,iv (↑((whereP (openL r true) x2).length):Int)),(36,iv 0)] [(0,.cells 25 (cRun r))] 10264) (tp 3) ?_
    refine swp_block ?_
    refine swp_loopA (z54_1 r x2) (eQ hE [] [(0,.same 0)] [4,24,6,7,25,8,34,35] [0] (((zP 0)/\(zT (aWays (openL r true)))/\(zT (iv (↑(r.found.length):Int)))/\(zT (iv (seekTP r (openL r true) x2).1))/\(zT (iv (seekTP r (openL r true) x2).2))/\(zT (iv (x2:Int)))/\(zT (AV.rp [iv (x2:Int)]))/\(zT (aInts (whereP (openL r true) x2)))/\(zT (iv (↑((whereP (openL r true) x2).length):Int)))/\(zN (iv 0) (iv (worstTo (fun (m:Int)=>mixOf r (openL r true) x2 m) (whereP (openL r true) x2) 0)))/\(zN (iv 0) (iv (↑0:Int)))/\True)/\((zT (OB.cells 25 (cRun r)))/\True)/\T2) ⟨⟨⟨rfl,rfl⟩,⟨rfl,rfl⟩,⟨rfl,rfl⟩,⟨rfl,rfl⟩,⟨rfl,rfl⟩,⟨rfl,rfl⟩,⟨rfl,rfl⟩,⟨rfl,rfl⟩,⟨rfl,rfl⟩,⟨(congrArg iv (o15 hp h1 x2 hx2 h3 h7)),rfl⟩,⟨(congrArg iv (o16 hp h1 x2 hx2 h3 h7)),rfl⟩,tv⟩,⟨⟨rfl,rfl⟩,tv⟩,rfl,rfl⟩) (o17 hp h1 x2 hx2 h3 h7) (fun (x8:Nat) hx8 => ?_)
    refine swp_seq ?_
    refine sQ (kt:=[1,4,24,6,7,25,8,34,35,10,36,37]) (kh:=[0]) (q:=True/\True) (st':=ASt.mk [(1,.ptr 0 []),(4,aWays (openL r true)),(24,iv (↑(r.found.length):Int)),(6,iv (seekTP r (openL r true) x2).1),(7,iv (seekTP r (openL r true) x2).2),(25,iv (x2:Int)),(8,.rp [iv (x2:Int)]),(34,aInts (whereP (openL r true) x2)),(35,iv (↑((whereP (openL r true) x2).length):Int)),(10,iv (worstTo (fun (m:Int)=>mixOf r (openL r true) x2 m) (whereP (openL r true) x2) x8)),(36,iv (x8:Int)),(37,bv (decide ((x8:Int) < (↑((whereP (openL r true) x2).length):Int))))] [(0,.cells 25 (cRun r))] 20272) ⟨tv,tv⟩ ?_
    refine swp_seq ?_
    refine swp_cond (decide ((x8:Int) < (↑((whereP (openL r true) x2).length):Int))) (by kernel_rfl) (fun h9 => ?_) (fun h9 => ?_)
    ·refine swp_skip (swp_seq (swp_block (swp_seq ?_)))
     refine sQ (kt:=[1,4,24,6,7,25,8,34,35,10,36,12]) (kh:=[0,20288]) (q:=(0<=(x8:Int)/\(x8:Int) < (↑((whereP (openL r true) x2).length):Int))/\tn 3) (st':=ASt.mk [(1,.ptr 0 []),(4,aWays (openL r true)),(24,iv (↑(r.found.length):Int)),(6,iv (seekTP r (openL r true) x2).1),(7,iv (seekTP r (openL r true) x2).2),(25,iv (x2:Int)),(8,.rp [iv (x2:Int)]),(34,aInts (whereP (openL r true) x2)),(35,iv (↑((whereP (openL r true) x2).length):Int)),(10,iv (worstTo (fun (m:Int)=>mixOf r (openL r true) x2 m) (whereP (openL r true) x2) x8)),(36,iv (x8:Int)),(12,.ptr 20288 [])] [(0,.cells 25 (cRun r)),(20288,.cells 3 [iv ((whereP (openL r true) x2).getD x8 0)])] 20304) ⟨⟨(o18 hp h1 x2 hx2 h3 h7 x8 hx8 h9),(o19 hp h1 x2 hx2 h3 h7 x8 hx8 h9)⟩,tp 3⟩ ?_
     refine swp_seq ?_
     refine swp_ent (ent_fz 20288 3 ([iv ((whereP (openL r true) x2).getD x8 0)]) (ASt.mk [(1,AV.ptr 0 []),(4,aWays (openL r true)),(24,iv (↑(r.found.length):Int)),(6,iv (seekTP r (openL r true) x2).1),(7,iv (seekTP r (openL r true) x2).2),(25,iv (x2:Int)),(8,AV.rp [iv (x2:Int)]),(34,aInts (whereP (openL r true) x2)),(35,iv (↑((whereP (openL r true) x2).length):Int)),(10,iv (worstTo (fun (m:Int)=>mixOf r (openL r true) x2 m) (whereP (openL r true) x2) x8)),(36,iv (x8:Int)),(12,AV.rp [iv ((whereP (openL r true) x2).getD x8 0)])] [(0,OB.cells 25 (cRun r))] 20304) (by kernel_rfl) (by kernel_rfl) (by kernel_rfl)) ?_
     refine sC (cs:=[(2,CallSpec.eq (c54b r x2 x8 20320) [true]),(4,CallSpec.eq (c54c r x2 x8) [true,false]),(5,CallSpec.eq (c54d r x2 x8) [true,false])]) (kt:=[1,4,24,6,7,25,8,34,35,10,36,13]) (kh:=[0,20352]) (q:=True/\True/\((zE (aWays (openL r true))/\True)/\Triple Try.prog 95 (c54b r x2 x8 20320)/\(0 < (openL r true).length/\(openL r true).length<=65536)/\True /\ ∀ (i10:Env),True)/\True/\((zE (AV.vec 20320)/\True/\True)/\Triple Try.prog 94 (c54c r x2 x8)/\(0 < (openL r true).length/\(openL r true).length<=65536)/\(zE (some (OB.vec 107 19 (openL r true).length fun (i:Nat)=>cWay ((openL r true).getD i default)))/\True) /\ ∀ (i11:Env) (i12:List Value),Env.le E0 i11->i12.length=2->(∀ (k:Nat),Rel i11 true (List.getD [AV.vec 20320,AV.clo 96 [AV.rp [iv (x2:Int)],AV.rp [iv ((whereP (openL r true) x2).getD x8 0)]]] k AV.any) (i12.getD k undef))->fnokOf Try.prog 0 (fun (w:{ w:WayS // w ∈ openL r true })=>[AV.agg (cWay (Subtype.val w))]) (fun (w:{ w:WayS // w ∈ openL r true })=>bv (ofM x2 ((whereP (openL r true) x2).getD x8 0) (Subtype.val w))) (Env.mk i11.1 i11.2 i11.3 fun (k:Nat) (u:Value) => ∃ (i:Nat),[AV.vec 20320,AV.fn 0][i]? = some (AV.fn k)/\i12[i]? = some u))/\((zE (AV.agg (cRun r))/\(19=19/\(delW (openL r true) (ofM x2 ((whereP (openL r true) x2).getD x8 0))).length=(delW (openL r true) (ofM x2 ((whereP (openL r true) x2).getD x8 0))).length /\ ∀ (i16:Nat),i16 < (delW (openL r true) (ofM x2 ((whereP (openL r true) x2).getD x8 0))).length->cWay ((delW (openL r true) (ofM x2 ((whereP (openL r true) x2).getD x8 0))).getD i16 default)=cWay ((delW (openL r true) (ofM x2 ((whereP (openL r true) x2).getD x8 0))).getD i16 default))/\True)/\Triple Try.prog 84 (c54d r x2 x8)/\(fits r/\rb r/\(∀ (i18:WayS),i18 ∈ delW (openL r true) (ofM x2 ((whereP (openL r true) x2).getD x8 0))->wb i18)/\1<=r.plates/\r.plates<=3/\0 < (delW (openL r true) (ofM x2 ((whereP (openL r true) x2).getD x8 0))).length/\(delW (openL r true) (ofM x2 ((whereP (openL r true) x2).getD x8 0))).length<=65536)/\True /\ ∀ (i20:Env),True)/\tn 2) (st':=ASt.mk [(1,.ptr 0 []),(4,aWays (openL r true)),(24,iv (↑(r.found.length):Int)),(6,iv (seekTP r (openL r true) x2).1),(7,iv (seekTP r (openL r true) x2).2),(25,iv (x2:Int)),(8,.rp [iv (x2:Int)]),(34,aInts (whereP (openL r true) x2)),(35,iv (↑((whereP (openL r true) x2).length):Int)),(10,iv (worstTo (fun (m:Int)=>mixOf r (openL r true) x2 m) (whereP (openL r true) x2) x8)),(36,iv (x8:Int)),(13,.ptr 20352 [])] [(0,.cells 25 (cRun r)),(20352,.cells 37 (cSpan (hullOf (delW (openL r true) (ofM x2 ((whereP (openL r true) x2).getD x8 0))) (mixF r))))] 20368) ⟨tv,tv,⟨⟨rfl,tv⟩,(t95o (openL r true) (20320)),⟨(o20 hp h1 x2 hx2 h3 h7 x8 hx8 h9),(o21 hp h1 x2 hx2 h3 h7 x8 hx8 h9)⟩,tv,(fun i10=>tv)⟩,tv,⟨⟨rfl,tv,tv⟩,(t94 _ _ _),⟨(o22 hp h1 x2 hx2 h3 h7 x8 hx8 h9),(o23 hp h1 x2 hx2 h3 h7 x8 hx8 h9)⟩,⟨rfl,tv⟩,(fun i11=>(fun i12=>(fun h13=>(fun h14=>(fun h15=>(o24 E0 hp h1 x2 hx2 h3 h7 x8 hx8 h9 i11 i12 h13 h14 h15))))))⟩,⟨⟨rfl,⟨rfl,rfl,(fun i16=>(fun h17=>rfl))⟩,tv⟩,(t84 _ _),⟨hp,(o25 hp h1 x2 hx2 h3 h7 x8 hx8 h9),(fun i18=>(fun h19=>(o26 hp h1 x2 hx2 h3 h7 x8 hx8 h9 i18 h19))),(o27 hp h1 x2 hx2 h3 h7 x8 hx8 h9),(o28 hp h1 x2 hx2 h3 h7 x8 hx8 h9),(o29 hp h1 x2 hx2 h3 h7 x8 hx8 h9),(o30 hp h1 x2 hx2 h3 h7 x8 hx8 h9)⟩,tv,(fun i20=>tv)⟩,tp 2⟩ ?_
     refine sQ (kt:=[1,4,24,6,7,25,8,34,35,10,36]) (kh:=[0]) (q:=True/\True/\True/\True/\True/\inI ((hullOf (delW (openL r true) (ofM x2 ((whereP (openL r true) x2).getD x8 0))) (mixF r)).hi - (hullOf (delW (openL r true) (ofM x2 ((whereP (openL r true) x2).getD x8 0))) (mixF r)).lo)/\tn 2) (st':=ASt.mk [(1,.ptr 0 []),(4,aWays (openL r true)),(24,iv (↑(r.found.length):Int)),(6,iv (seekTP r (openL r true) x2).1),(7,iv (seekTP r (openL r true) x2).2),(25,iv (x2:Int)),(8,.rp [iv (x2:Int)]),(34,aInts (whereP (openL r true) x2)),(35,iv (↑((whereP (openL r true) x2).length):Int)),(10,iv (max (worstTo (fun (m:Int)=>mixOf r (openL r true) x2 m) (whereP (openL r true) x2) x8) ((hullOf (delW (openL r true) (ofM x2 ((whereP (openL r true) x2).getD x8 0))) (mixF r)).hi - (hullOf (delW (openL r true) (ofM x2 ((whereP (openL r true) x2).getD x8 0))) (mixF r)).lo))),(36,iv (x8:Int))] [(0,.cells 25 (cRun r))] 20432) ⟨tv,tv,tv,tv,tv,(o31 hp h1 x2 hx2 h3 h7 x8 hx8 h9),tp 2⟩ ?_
     refine sQ (kt:=[1,4,24,6,7,25,8,34,35,10,36]) (kh:=[0]) (q:=inI ((x8:Int) + 1)/\True/\True) (st':=ASt.mk [(1,.ptr 0 []),(4,aWays (openL r true)),(24,iv (↑(r.found.length):Int)),(6,iv (seekTP r (openL r true) x2).1),(7,iv (seekTP r (openL r true) x2).2),(25,iv (x2:Int)),(8,.rp [iv (x2:Int)]),(34,aInts (whereP (openL r true) x2)),(35,iv (↑((whereP (openL r true) x2).length):Int)),(10,iv (max (worstTo (fun (m:Int)=>mixOf r (openL r true) x2 m) (whereP (openL r true) x2) x8) ((hullOf (delW (openL r true) (ofM x2 ((whereP (openL r true) x2).getD x8 0))) (mixF r)).hi - (hullOf (delW (openL r true) (ofM x2 ((whereP (openL r true) x2).getD x8 0))) (mixF r)).lo))),(36,iv ((x8:Int) + 1))] [(0,.cells 25 (cRun r))] 20448) ⟨(o32 hp h1 x2 hx2 h3 h7 x8 hx8 h9),tv,tv⟩ ?_
     exact loop_next (z54_1 r x2) x8 (eQ hE [] [(0,.same 0)] [4,24,6,7,25,8,34,35] [0] (((zP 0)/\(zT (aWays (openL r true)))/\(zT (iv (↑(r.found.length):Int)))/\(zT (iv (seekTP r (openL r true) x2).1))/\(zT (iv (seekTP r (openL r true) x2).2))/\(zT (iv (x2:Int)))/\(zT (AV.rp [iv (x2:Int)]))/\(zT (aInts (whereP (openL r true) x2)))/\(zT (iv (↑((whereP (openL r true) x2).length):Int)))/\(zN (iv (max (worstTo (fun (m:Int)=>mixOf r (openL r true) x2 m) (whereP (openL r true) x2) x8) ((hullOf (delW (openL r true) (ofM x2 ((whereP (openL r true) x2).getD x8 0))) (mixF r)).hi - (hullOf (delW (openL r true) (ofM x2 ((whereP (openL r true) x2).getD x8 0))) (mixF r)).lo))) (iv (worstTo (fun (m:Int)=>mixOf r (openL r true) x2 m) (whereP (openL r true) x2) (x8 + 1))))/\(zN (iv ((x8:Int) + 1)) (iv (↑(x8 + 1):Int)))/\True)/\((zT (OB.cells 25 (cRun r)))/\True)/\T2) ⟨⟨⟨rfl,rfl⟩,⟨rfl,rfl⟩,⟨rfl,rfl⟩,⟨rfl,rfl⟩,⟨rfl,rfl⟩,⟨rfl,rfl⟩,⟨rfl,rfl⟩,⟨rfl,rfl⟩,⟨rfl,rfl⟩,⟨(congrArg iv (o33 hp h1 x2 hx2 h3 h7 x8 hx8 h9)),rfl⟩,⟨(congrArg iv (o34 hp h1 x2 hx2 h3 h7 x8 hx8 h9)),rfl⟩,tv⟩,⟨⟨rfl,rfl⟩,tv⟩,rfl,rfl⟩) (o35 hp h1 x2 hx2 h3 h7 x8 hx8 h9) (o36 hp h1 x2 hx2 h3 h7 x8 hx8 h9)
    ·refine swp_exit (swp_seq ?_)
     refine sQ (kt:=[1,4,24,6,7,25,8,10,60]) (kh:=[0]) (q:=True/\True/\True/\((!decide ((seekTP r (openL r true) x2).1 < 0))->(True/\True)/\True)/\((!decide ((seekTP r (openL r true) x2).1 < 0))->(True/\True)/\True)/\((!decide ((seekTP r (openL r true) x2).1 < 0))->(((!decide ((seekTP r (openL r true) x2).1 < 0))->(!decide ((seekTP r (openL r true) x2).1 < 0))=true)/\((!decide ((seekTP r (openL r true) x2).1 < 0))->(!decide ((seekTP r (openL r true) x2).1 < 0))=true)/\True)/\True)/\((decide ((seekTP r (openL r true) x2).1 < 0)=true->True)/\(decide ((seekTP r (openL r true) x2).1 < 0)=false->(!decide ((seekTP r (openL r true) x2).1 < 0))=true))/\True) (st':=ASt.mk [(1,.ptr 0 []),(4,aWays (openL r true)),(24,iv (↑(r.found.length):Int)),(6,iv (seekTP r (openL r true) x2).1),(7,iv (seekTP r (openL r true) x2).2),(25,iv (x2:Int)),(8,.rp [iv (x2:Int)]),(10,iv (worstTo (fun (m:Int)=>mixOf r (openL r true) x2 m) (whereP (openL r true) x2) x8)),(60,bv (bif decide ((seekTP r (openL r true) x2).1 < 0) then true else decide (worstTo (fun (m:Int)=>mixOf r (openL r true) x2 m) (whereP (openL r true) x2) x8 < (seekTP r (openL r true) x2).2)))] [(0,.cells 25 (cRun r))] 20328) ⟨tv,tv,tv,(fun h21=>⟨⟨tv,tv⟩,tv⟩),(fun h22=>⟨⟨tv,tv⟩,tv⟩),(fun h23=>⟨⟨(fun h24=>h23),(fun h25=>h23),tv⟩,tv⟩),⟨(fun h26=>tv),(fun h27=>(o37 hp h1 x2 hx2 h3 h7 x8 hx8 h9 h27))⟩,tv⟩ ?_
     refine swp_cond (bif decide ((seekTP r (openL r true) x2).1 < 0) then true else decide (worstTo (fun (m:Int)=>mixOf r (openL r true) x2 m) (whereP (openL r true) x2) x8 < (seekTP r (openL r true) x2).2)) (by kernel_rfl) (fun h28 => ?_) (fun h28 => ?_)
     ·refine sQ (kt:=[1,4,24,6,7,25]) (kh:=[0]) (q:=tn 4) (st':=ASt.mk [(1,.ptr 0 []),(4,aWays (openL r true)),(24,iv (↑(r.found.length):Int)),(6,iv (x2:Int)),(7,iv (worstTo (fun (m:Int)=>mixOf r (openL r true) x2 m) (whereP (openL r true) x2) x8)),(25,iv (x2:Int))] [(0,.cells 25 (cRun r))] 20360) (tp 4) ?_
      refine sQ (kt:=[1,4,24,6,7,25]) (kh:=[0]) (q:=inI ((x2:Int) + 1)/\True/\True) (st':=ASt.mk [(1,.ptr 0 []),(4,aWays (openL r true)),(24,iv (↑(r.found.length):Int)),(6,iv (x2:Int)),(7,iv (worstTo (fun (m:Int)=>mixOf r (openL r true) x2 m) (whereP (openL r true) x2) x8)),(25,iv ((x2:Int) + 1))] [(0,.cells 25 (cRun r))] 20376) ⟨(o38 hp h1 x2 hx2 h3 h7 x8 hx8 h9 h28),tv,tv⟩ ?_
      exact loop_next (z54_2 r) x2 (eQ hE [] [(0,.same 0)] [4,24] [0] (((zP 0)/\(zT (aWays (openL r true)))/\(zT (iv (↑(r.found.length):Int)))/\(zN (iv (x2:Int)) (iv (seekTP r (openL r true) (x2 + 1)).1))/\(zN (iv (worstTo (fun (m:Int)=>mixOf r (openL r true) x2 m) (whereP (openL r true) x2) x8)) (iv (seekTP r (openL r true) (x2 + 1)).2))/\(zN (iv ((x2:Int) + 1)) (iv (↑(x2 + 1):Int)))/\True)/\((zT (OB.cells 25 (cRun r)))/\True)/\T2) ⟨⟨⟨rfl,rfl⟩,⟨rfl,rfl⟩,⟨rfl,rfl⟩,⟨(congrArg iv (o39 hp h1 x2 hx2 h3 h7 x8 hx8 h9 h28)),rfl⟩,⟨(congrArg iv (o40 hp h1 x2 hx2 h3 h7 x8 hx8 h9 h28)),rfl⟩,⟨(congrArg iv (o41 hp h1 x2 hx2 h3 h7 x8 hx8 h9 h28)),rfl⟩,tv⟩,⟨⟨rfl,rfl⟩,tv⟩,rfl,rfl⟩) (o42 hp h1 x2 hx2 h3 h7 x8 hx8 h9 h28) (o43 hp h1 x2 hx2 h3 h7 x8 hx8 h9 h28)
     ·refine swp_skip ?_
      refine sQ (kt:=[1,4,24,6,7,25]) (kh:=[0]) (q:=inI ((x2:Int) + 1)/\True/\True) (st':=ASt.mk [(1,.ptr 0 []),(4,aWays (openL r true)),(24,iv (↑(r.found.length):Int)),(6,iv (seekTP r (openL r true) x2).1),(7,iv (seekTP r (openL r true) x2).2),(25,iv ((x2:Int) + 1))] [(0,.cells 25 (cRun r))] 20344) ⟨(o44 hp h1 x2 hx2 h3 h7 x8 hx8 h9 h28),tv,tv⟩ ?_
      exact loop_next (z54_2 r) x2 (eQ hE [] [(0,.same 0)] [4,24] [0] (((zP 0)/\(zT (aWays (openL r true)))/\(zT (iv (↑(r.found.length):Int)))/\(zN (iv (seekTP r (openL r true) x2).1) (iv (seekTP r (openL r true) (x2 + 1)).1))/\(zN (iv (seekTP r (openL r true) x2).2) (iv (seekTP r (openL r true) (x2 + 1)).2))/\(zN (iv ((x2:Int) + 1)) (iv (↑(x2 + 1):Int)))/\True)/\((zT (OB.cells 25 (cRun r)))/\True)/\T2) ⟨⟨⟨rfl,rfl⟩,⟨rfl,rfl⟩,⟨rfl,rfl⟩,⟨(congrArg iv (o45 hp h1 x2 hx2 h3 h7 x8 hx8 h9 h28)),rfl⟩,⟨(congrArg iv (o46 hp h1 x2 hx2 h3 h7 x8 hx8 h9 h28)),rfl⟩,⟨(congrArg iv (o47 hp h1 x2 hx2 h3 h7 x8 hx8 h9 h28)),rfl⟩,tv⟩,⟨⟨rfl,rfl⟩,tv⟩,rfl,rfl⟩) (o48 hp h1 x2 hx2 h3 h7 x8 hx8 h9 h28) (o49 hp h1 x2 hx2 h3 h7 x8 hx8 h9 h28)
  ·refine swp_exit (swp_seq (swp_seq ?_))
   refine sQ (kt:=[6,65]) (kh:=[]) (q:=tn 2) (st':=ASt.mk [(6,iv (seekTP r (openL r true) x2).1),(65,bv (decide ((seekTP r (openL r true) x2).1 < 0)))] [] 10168) (tp 2) ?_
   refine swp_cond (decide ((seekTP r (openL r true) x2).1 < 0)) (by kernel_rfl) (fun h29 => ?_) (fun h29 => ?_)
   ·refine swp_seq ?_
    refine sQ (kt:=[2,3]) (kh:=[]) (q:=tn 2) (st':=ASt.mk [(2,iv 0),(3,iv 3)] [] 10184) (tp 2) ?_
    refine swp_ret ?_
    exact rQ [] ((True/\True/\True)/\((zN (iv 0) (iv (seekP r).1))/\(zN (iv 3) (iv (seekP r).2))/\True)/\T3) ⟨⟨tv,tv,tv⟩,⟨⟨(congrArg iv (o50 hp h1 x2 hx2 h3 h29)),rfl⟩,⟨(congrArg iv (o51 hp h1 x2 hx2 h3 h29)),rfl⟩,tv⟩,rfl,rfl,rfl⟩
   ·refine swp_skip (swp_seq ?_)
    refine sQ (kt:=[2,3]) (kh:=[]) (q:=tn 3) (st':=ASt.mk [(2,iv (seekTP r (openL r true) x2).1),(3,iv 0)] [] 10192) (tp 3) ?_
    refine swp_ret ?_
    exact rQ [] ((True/\True/\True)/\((zN (iv (seekTP r (openL r true) x2).1) (iv (seekP r).1))/\(zN (iv 0) (iv (seekP r).2))/\True)/\T3) ⟨⟨tv,tv,tv⟩,⟨⟨(congrArg iv (o52 hp h1 x2 hx2 h3 h29)),rfl⟩,⟨(congrArg iv (o53 hp h1 x2 hx2 h3 h29)),rfl⟩,tv⟩,rfl,rfl,rfl⟩
theorem t54 (r:Run):Triple Try.prog 54 (s54 r):=by
 apply w54
 all_goals (first | ((repeat intro _) <;> (try simp only [v0,v1,v2,v3,v4,v5,v6,v7,v8,v9,inI,fits,Go.Sh.small] at *) <;> first | (exact rfl) | omega | exact vz | (simp_all; done) | (simp_all; omega)) | skip)
 case o0=>intro _ h; rw [seekP_bad (openBad h)]
 case o1=>intro _ h; rw [seekP_bad (openBad h)]
 case o24 =>
  intro E0 hfit h x hx hl h2 y hy hyl E us le hlen2 hr
  have F:=openF h
  simp only [decide_eq_true_eq] at hl hyl
  refine fnok_arg (vals:=[.vec 20320,.clo 96 [.rp [iv x],.rp [iv ((whereP (openL r true) x).getD y 0)]]]) 1 (fun j' h => ?_) (fun E u hu w=>fnok_clo (caps:=[.rp [iv x],.rp [iv ((whereP (openL r true) x).getD y 0)]]) (s96 w.1 x ((whereP (openL r true) x).getD y 0)) (t96 w.1 _ _) rfl ?_ (fun _=>trivial) rfl rfl rfl rfl rfl hu) E us le hlen2 hr
  ·match j',h with
   | 0,h=>cases h
   | 1,_=>rfl
   | n + 2,h=>simp at h
  ·obtain ⟨i,hi,e⟩:=List.getElem_of_mem w.2
   have:=F.frm i hi
   rw [Go.Ab.getD_lt _ _ hi,e] at this
   show x < w.1.frm.length
   omega
 all_goals (intro hfit h; have F:=openF h; have hfl:=F.ok.found; have hlen:=F.len; have hpos:=F.pos; intro x hx hl; simp only [decide_eq_true_eq,decide_eq_false_iff_not] at hl)
 case o50 | o51 =>
  intro hn
  have e:x=r.found.length:=by omega
  simp only [decide_eq_true_eq] at hn
  rw [seekP,if_pos F.zero,← F.eq,← e,seekOf,if_pos hn]
 case o52 | o53 =>
  intro hn
  have e:x=r.found.length:=by omega
  simp only [decide_eq_false_iff_not] at hn
  have hs:seekP r=((seekTP r (openL r true) x).1,0):=by rw [seekP,if_pos F.zero,← F.eq,← e,seekOf,if_neg hn]
  rw [hs]
 case o6=>omega
 case o7=>omega
 case o8=>intro i hi; rw [F.frm i hi]; omega
 case o10 | o11=>intro h2; rw [seekTP_skip (by simpa using h2)]
 all_goals (intro h2; simp only [decide_eq_false_iff_not] at h2; intro y hy hyl; simp only [decide_eq_true_eq,decide_eq_false_iff_not] at hyl)
 case o20 | o21 | o22 | o23=>omega
 case o25=>exact rb_of F.ok
 case o26=>intro w hw; exact F.wb w (mem_delW.1 hw).1
 case o27=>exact F.ok.plates.1
 case o28=>exact F.ok.plates.2
 case o29=>exact delW_pos (by omega)
 case o30=>exact Nat.le_trans (List.length_filter_le _ _) (by omega)
 case o31 =>
  have:=mixOf_in F.ok (delW_pos (l:=openL r true) (f:=x) (i:=y) (by omega)) (fun w hw=>by rw [← F.eq]; exact (mem_delW.1 hw).1)
  exact ⟨by omega,by omega⟩
 case o32 =>
  have hb:(whereP (openL r true) x).length<=3:=by rw [F.eq,where_ways F.ok (by omega)]; exact Nat.le_trans (whTo_len _ _ _) F.ok.machines.2
  exact ⟨by omega,by omega⟩
 case o33=>rw [worstTo_succ]; rfl
 all_goals (have e:y=(whereP (openL r true) x).length:=by omega)
 all_goals (intro hb; have hiff:=seek_b hb)
 case o39=>rw [e] at hiff; rw [seekTP_t h2 (hiff.1 rfl)]
 case o40=>rw [e] at hiff ⊢; rw [seekTP_t h2 (hiff.1 rfl)]; rfl
 case o45 | o46=>rw [e] at hiff; rw [seekTP_f h2 (fun hh=>by have:=hiff.2 hh; cases this)]
end Go.Ab
namespace Go.Sh
theorem span_ext {a b:Span} (h1:a.lo=b.lo) (h2:a.hi=b.hi):a=b:=by cases a; cases b; simp only at h1 h2; rw [h1,h2]
theorem rising_one {m lo hi:Int} (h:within m lo hi=true):rising [m] lo hi=true:=by
 show (List.range 1).all (risAt [m] lo hi)=true
 simp only [List.range_succ,List.range_zero,List.nil_append,List.all_cons,List.all_nil,Bool.and_true,risAt]
 rw [show ([m]:List Int).getD 0 0=m from rfl,h]; rfl
theorem spanTo_lo (r:Run) (l:List Int) (m p:Nat) (n:Int):∀ k,(spanTo r l m p k).lo<=n ↔ (chg (mach r m) p).lo<=n /\ ∀ i,i < k->l.getD i 0=(m:Int)->(fnd r i).new.getD p 0=0->(fnd r i).minute + 1<=n:=by
 intro k
 induction k with
 | zero=>exact ⟨fun h=>⟨h,fun i hi=>by omega⟩,fun h=>h.1⟩
 | succ k ih =>
  rw [spanTo_succ]
  have step:(spanStep r l m p (spanTo r l m p k) k).lo<=n ↔ (spanTo r l m p k).lo<=n/\(l.getD k 0=(m:Int)->(fnd r k).new.getD p 0=0->(fnd r k).minute + 1<=n):=by
   unfold spanStep
   by_cases h1:l.getD k 0=(m:Int)
   ·rw [if_pos h1]
    by_cases h2:(fnd r k).new.getD p 0=1
    ·rw [if_pos h2]
     exact ⟨fun h=>⟨h,fun _ h3=>by omega⟩,fun h=>h.1⟩
    ·rw [if_neg h2]
     by_cases h3:(fnd r k).new.getD p 0=0
     ·rw [if_pos h3]
      show max _ _<=n ↔ _
      rw [Int.max_le]
      exact ⟨fun h=>⟨h.1,fun _ _=>h.2⟩,fun h=>⟨h.1,h.2 h1 h3⟩⟩
     ·rw [if_neg h3]
      exact ⟨fun h=>⟨h,fun _ h4=>absurd h4 h3⟩,fun h=>h.1⟩
   ·rw [if_neg h1]
    exact ⟨fun h=>⟨h,fun h2=>absurd h2 h1⟩,fun h=>h.1⟩
  rw [step,ih]
  constructor
  ·rintro ⟨⟨h1,h2⟩,h3⟩
   refine ⟨h1,fun i hi => ?_⟩
   by_cases e:i=k
   ·subst e; exact h3
   ·exact h2 i (by omega)
  ·rintro ⟨h1,h2⟩
   exact ⟨⟨h1,fun i hi=>h2 i (by omega)⟩,h2 k (by omega)⟩
theorem spanTo_hi (r:Run) (l:List Int) (m p:Nat) (n:Int):∀ k,n<=(spanTo r l m p k).hi ↔ n<=(chg (mach r m) p).hi /\ ∀ i,i < k->l.getD i 0=(m:Int)->(fnd r i).new.getD p 0=1->n<=(fnd r i).minute:=by
 intro k
 induction k with
 | zero=>exact ⟨fun h=>⟨h,fun i hi=>by omega⟩,fun h=>h.1⟩
 | succ k ih =>
  rw [spanTo_succ]
  have step:n<=(spanStep r l m p (spanTo r l m p k) k).hi ↔ n<=(spanTo r l m p k).hi/\(l.getD k 0=(m:Int)->(fnd r k).new.getD p 0=1->n<=(fnd r k).minute):=by
   unfold spanStep
   by_cases h1:l.getD k 0=(m:Int)
   ·rw [if_pos h1]
    by_cases h2:(fnd r k).new.getD p 0=1
    ·rw [if_pos h2]
     show n<=min _ _ ↔ _
     rw [Int.le_min]
     exact ⟨fun h=>⟨h.1,fun _ _=>h.2⟩,fun h=>⟨h.1,h.2 h1 h2⟩⟩
    ·rw [if_neg h2]
     by_cases h3:(fnd r k).new.getD p 0=0
     ·rw [if_pos h3]
      exact ⟨fun h=>⟨h,fun _ h4=>absurd h4 h2⟩,fun h=>h.1⟩
     ·rw [if_neg h3]
      exact ⟨fun h=>⟨h,fun _ h4=>absurd h4 h2⟩,fun h=>h.1⟩
   ·rw [if_neg h1]
    exact ⟨fun h=>⟨h,fun h2=>absurd h2 h1⟩,fun h=>h.1⟩
  rw [step,ih]
  constructor
  ·rintro ⟨⟨h1,h2⟩,h3⟩
   refine ⟨h1,fun i hi => ?_⟩
   by_cases e:i=k
   ·subst e; exact h3
   ·exact h2 i (by omega)
  ·rintro ⟨h1,h2⟩
   exact ⟨⟨h1,fun i hi=>h2 i (by omega)⟩,h2 k (by omega)⟩
theorem spanOf_lo {r:Run} {l:List Int} {m p:Nat} {n:Int}:(spanOf r l m p).lo<=n ↔ (chg (mach r m) p).lo<=n /\ ∀ i,i < l.length->l.getD i 0=(m:Int)->(fnd r i).new.getD p 0=0->(fnd r i).minute + 1<=n:=spanTo_lo r l m p n l.length
theorem spanOf_hi {r:Run} {l:List Int} {m p:Nat} {n:Int}:n<=(spanOf r l m p).hi ↔ n<=(chg (mach r m) p).hi /\ ∀ i,i < l.length->l.getD i 0=(m:Int)->(fnd r i).new.getD p 0=1->n<=(fnd r i).minute:=spanTo_hi r l m p n l.length
theorem mem_chFrom {r:Run}:∀ k (l:List Int),l ∈ chFrom r [] k ↔ l.length=k /\ ∀ i,i < k->l.getD i 0 ∈ (fnd r i).frm:=by
 intro k
 induction k with
 | zero =>
  intro l
  simp only [chFrom,List.mem_singleton]
  constructor
  ·rintro rfl; exact ⟨rfl,fun i hi=>by omega⟩
  ·rintro ⟨h,_⟩; exact List.length_eq_zero_iff.1 h
 | succ k ih =>
  intro l
  simp only [chFrom,List.mem_flatMap,List.mem_map]
  constructor
  ·rintro ⟨a,ha,m,hm,rfl⟩
   obtain ⟨h1,h2⟩:=(ih a).1 ha
   refine ⟨by simp [h1],fun i hi => ?_⟩
   rw [Go.Ab.getD_append]
   split
   ·exact h2 i (by omega)
   ·have:i=a.length:=by omega
    subst this
    rw [Nat.sub_self]; exact hm
  ·rintro ⟨h1,h2⟩
   rcases List.eq_nil_or_concat l with rfl | ⟨a,x,rfl⟩
   ·simp at h1
   ·rw [List.concat_eq_append] at h1 h2 ⊢
    have hl:a.length=k:=by simpa using h1
    refine ⟨a,(ih a).2 ⟨hl,fun i hi => ?_⟩,x,?_,rfl⟩
    ·have:=h2 i (by omega)
     rwa [Go.Ab.getD_append,if_pos (by omega)] at this
    ·have:=h2 k (by omega)
     rw [Go.Ab.getD_append,if_neg (by omega),hl,Nat.sub_self] at this
     rw [hl]; exact this
theorem mem_froms {r:Run} {l:List Int}:l ∈ fromsOf r ↔ (l.length=r.found.length /\ ∀ i,i < r.found.length->l.getD i 0 ∈ (fnd r i).frm)/\canBe r l=true:=by
 rw [fromsOf,List.mem_filter,choices_from,mem_chFrom]
theorem froms_in {r:Run} (ok:Ok r) {l:List Int} (h:l ∈ fromsOf r) {i:Nat} (hi:i < r.found.length):0<=l.getD i 0/\l.getD i 0 < r.machines.length:=frm_range ok hi (fromsOf_frm h hi)
theorem rhull_spec {l:List (List Int)} (F:List Int->Span) (h:0 < l.length):(∀ x,x ∈ l->(rhull l F).lo<=(F x).lo/\(F x).hi<=(rhull l F).hi)/\(∃ x,x ∈ l/\(rhull l F).lo=(F x).lo) /\ ∃ x,x ∈ l/\(rhull l F).hi=(F x).hi:=by
 have:∀ n,n<=l.length->(∀ i,i < n->(rhullTo l F n).lo<=(F (l.getD i [])).lo/\(F (l.getD i [])).hi<=(rhullTo l F n).hi)/\(∃ x,x ∈ l/\(rhullTo l F n).lo=(F x).lo) /\ ∃ x,x ∈ l/\(rhullTo l F n).hi=(F x).hi:=by
  intro n
  induction n with
  | zero=>intro _; exact ⟨fun i hi=>by omega,⟨_,Go.Ab.getD_mem l [] h,rfl⟩,⟨_,Go.Ab.getD_mem l [] h,rfl⟩⟩
  | succ n ih =>
   intro hn
   obtain ⟨h1,⟨x,hx,ex⟩,y,hy,ey⟩:=ih (by omega)
   have hm:=Go.Ab.getD_mem l [] (show n < l.length by omega)
   rw [rhullTo_succ]
   simp only [hull2]
   refine ⟨fun i hi => ?_,?_,?_⟩
   ·by_cases e:i=n
    ·subst e; omega
    ·have:=h1 i (by omega); omega
   ·by_cases c:(rhullTo l F n).lo<=(F (l.getD n [])).lo
    ·exact ⟨x,hx,by omega⟩
    ·exact ⟨_,hm,by omega⟩
   ·by_cases c:(F (l.getD n [])).hi<=(rhullTo l F n).hi
    ·exact ⟨y,hy,by omega⟩
    ·exact ⟨_,hm,by omega⟩
 obtain ⟨h1,h2,h3⟩:=this _ (Nat.le_refl _)
 refine ⟨fun x hx => ?_,h2,h3⟩
 obtain ⟨i,hi,rfl⟩:=List.getElem_of_mem hx
 have:=h1 i hi
 rw [Go.Ab.getD_lt _ _ hi] at this
 exact this
structure One (r:Run):Prop where
 ok:Ok r
 zero:∀ is,is=true->rfE r is=0
 pos:0 < (fromsOf r).length
theorem one_ex {r:Run} (h:One r):∃ x,x ∈ fromsOf r:=List.exists_mem_of_length_pos h.pos
theorem one_of {r:Run} (ok:okRun r=true) {x:List Int} (h:x ∈ fromsOf r):One r:=by
 have hp:=List.length_pos_of_mem h
 exact ⟨ok_of ok,fun is hi=>by rw [rfE,if_pos (check_zero.2 ok),if_pos hi,if_neg (by omega)],hp⟩
theorem none_of {r:Run} (ok:okRun r=true) (h:∀ x,¬ x ∈ fromsOf r) {is:Bool} (hi:is=true):rfE r is=3:=by
 have:(fromsOf r).length=0:=by
  rw [List.length_eq_zero_iff]
  exact List.eq_nil_iff_forall_not_mem.2 h
 rw [rfE,if_pos (check_zero.2 ok),if_pos hi,if_pos this]
theorem one_known {r:Run} (h:known6 r=true):One r:=by
 simp only [known6,ready,Bool.and_eq_true,decide_eq_true_eq] at h
 have ok:=check_zero.1 h.1.2
 have:0 < (fromsOf r).length:=by have:=h.2; simp only [isOne,decide_eq_true_eq] at this; omega
 obtain ⟨x,hx⟩:=List.exists_mem_of_length_pos this
 exact one_of ok hx
theorem ready_ok {r:Run} (h:ready r=true):okRun r=true:=by
 simp only [ready,Bool.and_eq_true,decide_eq_true_eq] at h
 exact check_zero.1 h.2
end Go.Sh
namespace Go.Sh
structure Tld where
 when:List Span
 old:List Span
 whr:List (List Int)
 mixed:List Int
 mixes:Span
 fewest:Int
 deriving DecidableEq,Inhabited
theorem isFound_nat {r:Run} {i:Nat} (hi:i < r.found.length):isFound r (i:Int)=true:=by
 simp only [isFound,within_iff]; omega
theorem one_open {r:Run} (h:One r) {is:Bool} (hi:is=true):openE r is=0:=by rw [open_eq]; exact h.zero _ hi
theorem mixes_val {r:Run} (h:One r):mixesS r=rhull (fromsOf r) (mixL r):=by
 have hw:0 < (waysOf r).length:=by rw [ways_len h.ok]; exact h.pos
 rw [mixesS,if_pos (one_open h rfl),hull_eq (G:=mixL r) hw (fun w hw=>way_mix h.ok hw),ways_froms h.ok]
theorem where_val {r:Run} (h:One r) {i:Nat} (hi:i < r.found.length):whereS r (i:Int)=whereOf r (fromsOf r) i:=by
 rw [where_eq,whereR,if_pos (h.zero _ (isFound_nat hi)),Int.toNat_natCast]
theorem mem_where {r:Run} {l:List (List Int)} {i:Nat} {v:Int}:v ∈ whereOf r l i ↔ ∃ m:Nat,m < r.machines.length/\v=(m:Int) /\ ∃ x,x ∈ l/\x.getD i 0=(m:Int):=by
 unfold whereOf whTo anyF
 simp only [List.mem_map,List.mem_filter,List.mem_range,List.take_length,List.any_eq_true,decide_eq_true_eq]
 constructor
 ·rintro ⟨m,⟨h1,x,h2,h3⟩,rfl⟩; exact ⟨m,h1,rfl,x,h2,h3⟩
 ·rintro ⟨m,h1,rfl,x,h2,h3⟩; exact ⟨m,⟨h1,x,h2,h3⟩,rfl⟩
theorem mem_whereS {r:Run} (h:One r) {i:Nat} (hi:i < r.found.length) {v:Int}:v ∈ whereS r (i:Int) ↔ ∃ x,x ∈ fromsOf r/\x.getD i 0=v:=by
 rw [where_val h hi,mem_where]
 constructor
 ·rintro ⟨m,h1,rfl,x,h2,h3⟩; exact ⟨x,h2,h3⟩
 ·rintro ⟨x,h2,rfl⟩
  have:=froms_in h.ok h2 hi
  exact ⟨(x.getD i 0).toNat,by omega,by omega,x,h2,by omega⟩
theorem rising_of {l:List Int} {lo hi:Int} (h1:∀ x,x ∈ l->lo<=x/\x<=hi) (h2:l.Pairwise (· < ·)):rising l lo hi=true:=by
 unfold rising
 rw [List.all_eq_true]
 intro i hi
 have hi:=List.mem_range.1 hi
 unfold risAt
 rw [Bool.and_eq_true,within_iff]
 refine ⟨h1 _ (Go.Ab.getD_mem _ _ hi),?_⟩
 simp only [Bool.or_eq_true,Bool.not_eq_true',decide_eq_false_iff_not]
 by_cases e:i=0
 ·left; omega
 ·right
  have:=List.pairwise_iff_getElem.1 h2 (i - 1) i (by omega) hi (by omega)
  rw [Go.Ab.getD_lt _ _ hi,Go.Ab.getD_lt _ _ (by omega)]
  omega
theorem where_rising {r:Run} (l:List (List Int)) (i:Nat):rising (whereOf r l i) 0 ((r.machines.length:Int) - 1)=true:=by
 refine rising_of (fun x hx => ?_) ?_
 ·obtain ⟨m,h1,rfl,_⟩:=mem_where.1 hx; omega
 ·unfold whereOf whTo
  rw [List.pairwise_map]
  exact ((List.pairwise_lt_range (n:=r.machines.length)).filter _).imp fun h=>by omega
theorem where_facts {r:Run} (h:One r) {i:Nat} (hi:i < r.found.length):(whereS r (i:Int)).length ≠ 0/\(whereS r (i:Int)).length<=3/\rising (whereS r (i:Int)) 0 ((r.machines.length:Int) - 1)=true:=by
 have hr:rising (whereS r (i:Int)) 0 ((r.machines.length:Int) - 1)=true:=by rw [where_val h hi]; exact where_rising _ _
 refine ⟨?_,?_,hr⟩
 ·obtain ⟨x,hx⟩:=one_ex h
  have:=(mem_whereS h hi).2 ⟨x,hx,rfl⟩
  intro e
  rw [List.length_eq_zero_iff.1 e] at this
  cases this
 ·have:=rising_len hr
  have:=h.ok.machines
  omega
theorem mixes_in {r:Run} (h:One r):0<=(mixesS r).lo/\(mixesS r).lo<=(mixesS r).hi/\(mixesS r).hi<=810:=by
 have hw:0 < (waysOf r).length:=by rw [ways_len h.ok]; exact h.pos
 have hpl:=h.ok.plates
 rw [mixesS,if_pos (one_open h rfl)]
 refine hull_in hw fun w hw => ?_
 have:=sum_hb h.ok (f:=fun m=>spread (w.whn m) r.plates.toNat) (fun m hm=>by
  rw [way_spread h.ok hw hm]
  exact minutes_hb (by omega) fun q hq=>by
   have:=(way_ok h.ok hw).2 m hm q (by omega)
   rw [← this]; exact way_hb h.ok hw hm (by omega)) _ (Nat.le_refl _)
 have:=h.ok.machines
 show 0<=(sumTo r _ _).lo/\(sumTo r _ _).lo<=(sumTo r _ _).hi/\(sumTo r _ _).hi<=810
 omega
theorem ok_fits {r:Run} (ok:Ok r):fits r:=by
 have h1:=ok.machines
 have h2:=ok.found
 have h3:=ok.plates
 refine ⟨by omega,by omega,fun i => ?_,fun i => ?_⟩
 ·by_cases hi:i < r.machines.length
  ·have:=ok.mach i hi; omega
  ·rw [mach,Go.Ab.getD_ge _ _ (by omega)]; exact Nat.zero_le _
 ·by_cases hi:i < r.found.length
  ·have:=ok.fnd i hi; have:=frm_len ok hi; omega
  ·rw [fnd,Go.Ab.getD_ge _ _ (by omega)]; exact ⟨Nat.zero_le _,Nat.zero_le _⟩
structure Clear (x y:Tld):Prop where
 wl:x.when.length=y.when.length/\x.when.length<=65536
 ol:x.old.length=y.old.length/\x.old.length<=65536
 ml:x.mixed.length=y.mixed.length/\x.mixed.length<=65536
 hl:y.whr.length<=x.whr.length/\x.whr.length<=65536
 mixes:inside x.mixes y.mixes=true
 few:y.fewest<=x.fewest
 when:∀ i,i < x.when.length->inside (x.when.getD i default) (y.when.getD i default)=true
 old:∀ i,i < x.old.length->inside (x.old.getD i default) (y.old.getD i default)=true
 mixed:∀ i,i < x.mixed.length->y.mixed.getD i 0=3 ∨ x.mixed.getD i 0=y.mixed.getD i 0
 whr:∀ i,i < y.whr.length->(∀ k,k < (x.whr.getD i []).length->isIn (y.whr.getD i []) ((x.whr.getD i []).getD k 0)=true)/\(x.whr.getD i []).length<=65536/\(y.whr.getD i []).length<=65536
structure Finer (o r:Run) (φ:List Int->List Int):Prop where
 ro:One r
 oo:One o
 ml:o.machines.length=r.machines.length
 pl:o.plates=r.plates
 rate:∀ m,m < r.machines.length->(mach o m).rate=(mach r m).rate
 mem:∀ x,x ∈ fromsOf o->φ x ∈ fromsOf r
 span:∀ x,x ∈ fromsOf o -> ∀ m,m < r.machines.length -> ∀ p:Nat,(p:Int) < r.plates->(spanOf r (φ x) m p).lo<=(spanOf o x m p).lo/\(spanOf o x m p).hi<=(spanOf r (φ x) m p).hi
 sub:∀ x,x ∈ fromsOf o -> ∀ v,v ∈ φ x->v ∈ x
end Go.Sh
namespace Go.Sh
theorem getD_set {α:Type} (l:List α) (d v:α) {i j:Nat} (hi:i < l.length):(l.set i v).getD j d=if j=i then v else l.getD j d:=by
 by_cases hj:j < l.length
 ·rw [Go.Ab.getD_lt _ _ (by simpa using hj),List.getElem_set,Go.Ab.getD_lt _ _ hj]
  by_cases e:i=j
  ·rw [if_pos e,if_pos e.symm]
  ·rw [if_neg e,if_neg (fun h=>e h.symm)]
 ·rw [Go.Ab.getD_ge _ _ (by simp; omega),Go.Ab.getD_ge _ _ (by omega),if_neg (by omega)]
def setF (r:Run) (f:Nat) (c:Fnd):Run:=⟨r.plates,r.last,r.machines,r.found.set f c⟩
theorem len_setF (r:Run) (f:Nat) (c:Fnd):(setF r f c).found.length=r.found.length:=List.length_set
theorem fnd_setF {r:Run} {f:Nat} (c:Fnd) (h:f < r.found.length) (j:Nat):fnd (setF r f c) j=if j=f then c else fnd r j:=getD_set _ _ _ h
theorem okRun_setF {r:Run} {f:Nat} {c:Fnd} (h:okRun r=true) (hf:f < r.found.length) (hc:okFndA r c=true):okRun (setF r f c)=true:=by
 simp only [okRun,Bool.and_eq_true] at h
 have hl:=len_setF r f c
 refine okRun_of ?_ (fun j hj => ?_) (fun j hj => ?_)
 ·have h1:=h.1.1
  unfold okHead at h1 ⊢
  rw [hl]; exact h1
 ·exact Go.Ab.idx_all default h.1.2 hj
 ·rw [hl] at hj
  rw [fnd_setF c hf]
  split
  ·exact hc
  ·exact Go.Ab.idx_all default h.2 hj
theorem okFndA_at {r:Run} (h:okRun r=true) {f:Nat} (hf:f < r.found.length):okFndA r (fnd r f)=true:=by
 simp only [okRun,Bool.and_eq_true] at h
 exact Go.Ab.idx_all default h.2 hf
theorem fits_setF {r:Run} {f:Nat} {c:Fnd} (h:fits r) (hf:f < r.found.length) (hc:c.new.length<=1125899906842624/\c.frm.length<=1125899906842624):fits (setF r f c):=by
 refine ⟨h.1,by rw [len_setF]; exact h.2.1,h.2.2.1,fun i => ?_⟩
 rw [fnd_setF c hf]
 split
 ·exact hc
 ·exact h.2.2.2 i
def setFrm (r:Run) (f:Nat) (l:List Int):Run:=setF r f ⟨(fnd r f).minute,(fnd r f).new,l⟩
theorem okRun_setFrm {r:Run} (h:okRun r=true) {f:Nat} {l:List Int} (hf:f < r.found.length) (hl:0 < l.length) (hr:rising l 0 ((r.machines.length:Int) - 1)=true):okRun (setFrm r f l)=true:=by
 have hF:=okFndA_at h hf
 refine okRun_setF h hf ?_
 simp only [okFndA,okFnd,Bool.and_eq_true] at hF ⊢
 refine ⟨⟨⟨hF.1.1.1,?_⟩,hr⟩,hF.2⟩
 simp only [Bool.not_eq_true',decide_eq_false_iff_not]; omega
theorem fits_setFrm {r:Run} {f:Nat} {l:List Int} (h:fits r) (hf:f < r.found.length) (hl:l.length<=1125899906842624):fits (setFrm r f l):=fits_setF h hf ⟨(h.2.2.2 f).1,hl⟩
theorem spanOf_same {r o:Run} {l:List Int} {m p:Nat} (hc:chg (mach o m) p=chg (mach r m) p) (h:∀ i,i < l.length->l.getD i 0=(m:Int)->(fnd o i).minute=(fnd r i).minute/\(fnd o i).new.getD p 0=(fnd r i).new.getD p 0):spanOf o l m p=spanOf r l m p:=by
 refine span_ext (Int.le_antisymm ?_ ?_) (Int.le_antisymm ?_ ?_)
 ·rw [spanOf_lo,hc]
  obtain ⟨h1,h2⟩:=spanOf_lo.1 (Int.le_refl (spanOf r l m p).lo)
  exact ⟨h1,fun i hi e e2=>by rw [(h i hi e).1]; exact h2 i hi e (by rw [← (h i hi e).2]; exact e2)⟩
 ·rw [spanOf_lo,← hc]
  obtain ⟨h1,h2⟩:=spanOf_lo.1 (Int.le_refl (spanOf o l m p).lo)
  exact ⟨h1,fun i hi e e2=>by rw [← (h i hi e).1]; exact h2 i hi e (by rw [(h i hi e).2]; exact e2)⟩
 ·rw [spanOf_hi,← hc]
  obtain ⟨h1,h2⟩:=spanOf_hi.1 (Int.le_refl (spanOf o l m p).hi)
  exact ⟨h1,fun i hi e e2=>by rw [← (h i hi e).1]; exact h2 i hi e (by rw [(h i hi e).2]; exact e2)⟩
 ·rw [spanOf_hi,hc]
  obtain ⟨h1,h2⟩:=spanOf_hi.1 (Int.le_refl (spanOf r l m p).hi)
  exact ⟨h1,fun i hi e e2=>by rw [(h i hi e).1]; exact h2 i hi e (by rw [← (h i hi e).2]; exact e2)⟩
end Go.Sh
namespace Go.Sh
def rotIdx (F a i:Nat):Nat:=(i + a) % F
end Go.Sh
namespace Go.Sh
theorem ok_small {r:Run} (ok:Ok r):small r:=by
 have h1:=ok.machines
 have h2:=ok.found
 have h3:=ok.plates
 refine ⟨by omega,by omega,fun i => ?_,fun i => ?_⟩
 ·by_cases hi:i < r.machines.length
  ·have:=ok.mach i hi; omega
  ·rw [mach,Go.Ab.getD_ge _ _ (by omega)]; exact Nat.zero_le _
 ·by_cases hi:i < r.found.length
  ·have:=ok.fnd i hi; have:=frm_len ok hi; omega
  ·rw [fnd,Go.Ab.getD_ge _ _ (by omega)]; exact ⟨Nat.zero_le _,Nat.zero_le _⟩
def fromR (r:Run) (f m:Int):Run:=setFrm r f.toNat [m]
theorem from_span {r:Run} {f:Nat} {m:Int} (hf:f < r.found.length) (x:List Int) (j q:Nat):spanOf (setFrm r f [m]) x j q=spanOf r x j q:=by
 refine spanOf_same rfl fun i _ _ => ?_
 unfold setFrm
 rw [fnd_setF _ hf]
 split
 ·rename_i e; subst e; exact ⟨rfl,rfl⟩
 ·exact ⟨rfl,rfl⟩
theorem from_ok {r:Run} (h:okRun r=true) {f:Nat} (hf:f < r.found.length) {m:Int} (hm:isMachine r m=true):okRun (setFrm r f [m])=true:=okRun_setFrm h hf (by simp) (rising_one hm)
theorem from_froms {r:Run} (h:okRun r=true) {f:Nat} (hf:f < r.found.length) {m:Int} (hm:isMachine r m=true) (hin:m ∈ (fnd r f).frm) (x:List Int):x ∈ fromsOf (setFrm r f [m]) ↔ x ∈ fromsOf r/\x.getD f 0=m:=by
 have ok:=ok_of h
 have okO:=ok_of (from_ok h hf hm)
 have hlen:(setFrm r f [m]).found.length=r.found.length:=len_setF _ _ _
 have hfr:∀ i,(fnd (setFrm r f [m]) i).frm=if i=f then [m] else (fnd r i).frm:=by
  intro i
  unfold setFrm
  rw [fnd_setF _ hf]
  by_cases e:i=f
  ·rw [if_pos e,if_pos e]
  ·rw [if_neg e,if_neg e]
 have hc:canBe (setFrm r f [m]) x=true ↔ canBe r x=true:=by
  rw [canBe_iff okO,canBe_iff ok]
  constructor
  ·intro hh j hj q hq; rw [← from_span hf (m:=m)]; exact hh j hj q hq
  ·intro hh j hj q hq; rw [from_span hf]; exact hh j hj q hq
 rw [mem_froms,mem_froms,hlen,hc]
 constructor
 ·rintro ⟨⟨h1,h2⟩,h3⟩
  refine ⟨⟨⟨h1,fun i hi => ?_⟩,h3⟩,?_⟩
  ·have:=h2 i hi
   rw [hfr] at this
   split at this
   ·rename_i e; subst e; rw [List.mem_singleton] at this; rw [this]; exact hin
   ·exact this
  ·have:=h2 f hf
   rw [hfr,if_pos rfl,List.mem_singleton] at this
   exact this
 ·rintro ⟨⟨⟨h1,h2⟩,h3⟩,h4⟩
  refine ⟨⟨h1,fun i hi => ?_⟩,h3⟩
  rw [hfr]
  split
  ·rename_i e; subst e; rw [List.mem_singleton]; exact h4
  ·exact h2 i hi
theorem rhull_ext {l l':List (List Int)} {F:List Int->Span} (h:0 < l.length) (h':0 < l'.length) (hm:∀ x,x ∈ l ↔ x ∈ l'):rhull l F=rhull l' F:=by
 obtain ⟨a1,⟨x,hx,ex⟩,y,hy,ey⟩:=rhull_spec F h
 obtain ⟨b1,⟨u,hu,eu⟩,v,hv,ev⟩:=rhull_spec F h'
 have c1:=b1 x ((hm x).1 hx)
 have c2:=b1 y ((hm y).1 hy)
 have c3:=a1 u ((hm u).2 hu)
 have c4:=a1 v ((hm v).2 hv)
 exact span_ext (by omega) (by omega)
theorem mixL_from {r:Run} {f:Nat} {m:Int} (hf:f < r.found.length) (x:List Int):mixL (setFrm r f [m]) x=mixL r x:=by
 unfold mixL
 show sumTo (setFrm r f [m]) _ r.machines.length=_
 have:∀ (g g':Nat->Span) n,(∀ k,k < n->g k=g' k)->sumTo (setFrm r f [m]) g n=sumTo r g' n:=by
  intro g g' n
  induction n with
  | zero=>intro _; rfl
  | succ n ih =>
   intro h
   rw [sumTo_succ,sumTo_succ,ih (fun k hk=>h k (by omega)),h n (by omega)]; rfl
 refine this _ _ _ fun k _ => ?_
 have e:spanOf (setFrm r f [m]) x k=spanOf r x k:=funext fun q=>from_span hf x k q
 rw [e]; rfl
theorem from_where {r:Run} (hk:okRun r=true) (h:One r) {f:Nat} (hf:f < r.found.length) {m:Int} (hw:m ∈ whereS r (f:Int)):isMachine r m=true/\m ∈ (fnd r f).frm/\One (setFrm r f [m])/\mixesS (setFrm r f [m])=mixOf r (waysOf r) f m:=by
 obtain ⟨x,hx,e⟩:=(mem_whereS h hf).1 hw
 have hin:=fromsOf_frm hx hf
 rw [e] at hin
 have hrg:=froms_in h.ok hx hf
 rw [e] at hrg
 have hm:isMachine r m=true:=by simp only [isMachine,within_iff]; omega
 have hO:One (setFrm r f [m]):=one_of (from_ok hk hf hm) ((from_froms hk hf hm hin x).2 ⟨hx,e⟩)
 refine ⟨hm,hin,hO,?_⟩
 have hwP:m ∈ whereP (waysOf r) f:=by rw [where_ways h.ok hf,← where_val h hf]; exact hw
 obtain ⟨w,hww,ew⟩:=mem_whereP.1 hwP
 have hpos:0 < (delW (waysOf r) (ofM f m)).length:=List.length_pos_of_mem (mem_delW.2 ⟨hww,ew⟩)
 rw [mixes_val hO,mixOf,hull_eq (G:=mixL r) hpos (fun v hv=>way_mix h.ok (mem_delW.1 hv).1)]
 have e1:rhull (fromsOf (setFrm r f [m])) (mixL (setFrm r f [m]))=rhull (fromsOf (setFrm r f [m])) (mixL r):=by
  have:mixL (setFrm r f [m])=mixL r:=funext fun x=>mixL_from hf x
  rw [this]
 rw [e1]
 refine rhull_ext hO.pos (by rw [List.length_map]; exact hpos) fun y => ?_
 rw [from_froms hk hf hm hin y,List.mem_map]
 constructor
 ·rintro ⟨h1,h2⟩
  rw [← ways_froms h.ok,List.mem_map] at h1
  obtain ⟨v,hv,rfl⟩:=h1
  exact ⟨v,mem_delW.2 ⟨hv,h2⟩,rfl⟩
 ·rintro ⟨v,hv,rfl⟩
  obtain ⟨h1,h2⟩:=mem_delW.1 hv
  exact ⟨by rw [← ways_froms h.ok]; exact List.mem_map_of_mem h1,h2⟩
def leavesV (r:Run) (f:Nat):Int:=worst (fun m=>mixesS (setFrm r f [m])) (whereS r (f:Int))
theorem leaves_eq {r:Run} (hk:okRun r=true) (h:One r) {f:Nat} (hf:f < r.found.length):leavesV r f=worst (fun m=>mixOf r (waysOf r) f m) (whereP (waysOf r) f):=by
 unfold leavesV
 rw [worst_congr (mx':=fun m=>mixOf r (waysOf r) f m) fun v hv=>(from_where hk h hf hv).2.2.2,where_val h hf,← where_ways h.ok hf]
theorem from_mixes {r:Run} (hk:okRun r=true) (h:One r) {f:Nat} (hf:f < r.found.length) {m:Int} (hw:m ∈ whereS r (f:Int)):openE (setFrm r f [m]) true=0/\0<=(mixesS (setFrm r f [m])).lo/\(mixesS (setFrm r f [m])).lo<=(mixesS (setFrm r f [m])).hi/\(mixesS (setFrm r f [m])).hi<=810:=by
 have hO:=(from_where hk h hf hw).2.2.1
 exact ⟨one_open hO rfl,mixes_in hO⟩
theorem seek_inv (wh:Nat->List Int) (mx:Nat->Int->Span):∀ n,((seekTo wh mx n).1 = -1 /\ ∀ c,c < n->(wh c).length < 2) ∨ ∃ c0:Nat,(seekTo wh mx n).1=c0/\c0 < n/\2<=(wh c0).length/\(seekTo wh mx n).2=worst (mx c0) (wh c0) /\ ∀ c,c < n->2<=(wh c).length->worst (mx c0) (wh c0)<=worst (mx c) (wh c)/\(worst (mx c0) (wh c0) < worst (mx c) (wh c) ∨ c0<=c):=by
 intro n
 induction n with
 | zero=>left; exact ⟨rfl,fun c hc=>by omega⟩
 | succ n ih =>
  by_cases hl:(wh n).length < 2
  ·rw [seek_skip hl]
   rcases ih with ⟨h1,h2⟩ | ⟨c0,h1,h2,h3,h4,h5⟩
   ·left
    refine ⟨h1,fun c hc => ?_⟩
    by_cases e:c=n
    ·subst e; exact hl
    ·exact h2 c (by omega)
   ·right
    refine ⟨c0,h1,by omega,h3,h4,fun c hc hc2 => ?_⟩
    by_cases e:c=n
    ·subst e; omega
    ·exact h5 c (by omega) hc2
  ·right
   by_cases hb:(seekTo wh mx n).1 < 0 ∨ worst (mx n) (wh n) < (seekTo wh mx n).2
   ·rw [seek_t hl hb]
    refine ⟨n,rfl,by omega,by omega,rfl,fun c hc hc2 => ?_⟩
    by_cases e:c=n
    ·subst e; exact ⟨Int.le_refl _,.inr (Nat.le_refl _)⟩
    ·rcases ih with ⟨h1,h2⟩ | ⟨c0,h1,h2,h3,h4,h5⟩
     ·have:=h2 c (by omega); omega
     ·have h6:=h5 c (by omega) hc2
      rcases hb with hb | hb
      ·omega
      ·exact ⟨by omega,.inl (by omega)⟩
   ·rw [seek_f hl hb]
    rcases ih with ⟨h1,h2⟩ | ⟨c0,h1,h2,h3,h4,h5⟩
    ·exact absurd (.inl (by omega)) hb
    ·refine ⟨c0,h1,by omega,h3,h4,fun c hc hc2 => ?_⟩
     by_cases e:c=n
     ·subst e
      have:¬ worst (mx c) (wh c) < (seekTo wh mx c).2:=fun hh=>hb (.inr hh)
      exact ⟨by omega,.inr (by omega)⟩
     ·exact h5 c (by omega) hc2
theorem seek_val {r:Run} (hk:okRun r=true) (h:One r):(seekP r=(0,3) /\ ∀ f:Nat,f < r.found.length->(whereS r (f:Int)).length < 2) ∨
  ∃ c0:Nat,seekP r=((c0:Int),0)/\c0 < r.found.length/\2<=(whereS r (c0:Int)).length /\ ∀ f:Nat,f < r.found.length->2<=(whereS r (f:Int)).length->leavesV r c0<=leavesV r f/\(leavesV r c0 < leavesV r f ∨ c0<=f):=by
 have hz:=one_open h (is:=true) rfl
 have hw:∀ f:Nat,f < r.found.length->whereS r (f:Int)=whereP (waysOf r) f:=fun f hf=>by rw [where_val h hf,where_ways h.ok hf]
 rw [seekP,if_pos hz]
 rcases seek_inv (whereP (waysOf r)) (fun c m=>mixOf r (waysOf r) c m) r.found.length with ⟨h1,h2⟩ | ⟨c0,h1,h2,h3,h4,h5⟩
 ·left
  refine ⟨?_,fun f hf=>by rw [hw f hf]; exact h2 f hf⟩
  unfold seekTP seekOf
  rw [if_pos (by rw [h1]; decide)]
 ·right
  refine ⟨c0,?_,h2,by rw [hw c0 h2]; exact h3,fun f hf hf2 => ?_⟩
  ·unfold seekTP seekOf
   rw [if_neg (by rw [h1]; omega),h1]
  ·rw [leaves_eq hk h h2,leaves_eq hk h hf]
   exact h5 f hf (by rw [← hw f hf]; exact hf2)
theorem truth_from {r:Run} (hk:okRun r=true) (h:One r) {f:Nat} (hf:f < r.found.length) {m:Int} (hm:isMachine r m=true) (hin:m ∈ (fnd r f).frm):(openE (setFrm r f [m]) true=0/\isIn (whereS r (f:Int)) m=true) ∨ (openE (setFrm r f [m]) true=3/\isIn (whereS r (f:Int)) m=false):=by
 by_cases c:m ∈ whereS r (f:Int)
 ·exact .inl ⟨(from_mixes hk h hf c).1,isIn_mem.2 c⟩
 ·right
  refine ⟨?_,?_⟩
  ·rw [open_eq]
   refine none_of (from_ok hk hf hm) (fun x hx=>c ?_) rfl
   obtain ⟨h1,h2⟩:=(from_froms hk hf hm hin x).1 hx
   exact (mem_whereS h hf).2 ⟨x,h1,h2⟩
  ·cases e:isIn (whereS r (f:Int)) m with
   | false=>rfl
   | true=>exact absurd (isIn_mem.1 e) c
theorem where_frm {r:Run} (h:One r) {f:Nat} (hf:f < r.found.length) {m:Int} (hin:isIn (fnd r f).frm m=false):isIn (whereS r (f:Int)) m=false:=by
 cases e:isIn (whereS r (f:Int)) m with
 | false=>rfl
 | true =>
  obtain ⟨x,hx,e2⟩:=(mem_whereS h hf).1 (isIn_mem.1 e)
  have:=fromsOf_frm hx hf
  rw [e2] at this
  rw [isIn_mem.2 this] at hin; cases hin
end Go.Sh
namespace Go.Sh
structure Clr where
 found:Int
 plate:Int
 new:Int
 not:Int
 machine:Int
 change:Int
 span:Span
 deriving DecidableEq,Inhabited
theorem isFound_iff {r:Run} {f:Int}:isFound r f=true ↔ 0<=f/\f < r.found.length:=by
 simp only [isFound,within_iff]; omega
end Go.Sh
namespace Go.Sh
structure TellF (r:Run):Prop where
 okb:okRun r=true
 one:One r
theorem tellF {r:Run} (h:okRun r=true) (h2:isOne r=true):TellF r:=by
 have:0 < (fromsOf r).length:=by simp only [isOne,decide_eq_true_eq] at h2; omega
 obtain ⟨x,hx⟩:=List.exists_mem_of_length_pos this
 exact ⟨h,one_of h hx⟩
end Go.Sh
namespace Go.En
open Go Go.Ab Go.Sh
end Go.En
namespace Go.Ab
open Go Go.RowKit Go.Proofs Go.Sh Go.En
end Go.Ab
namespace Go.Ab
open Go Go.RowKit Go.Proofs Go.Sh Go.En
end Go.Ab
namespace Go.Sh
theorem chLen_over (r:Run):chLen r r.machines.length r.machines.length=(mach r r.machines.length).changes.length:=by
 rw [mach,Go.Ab.getD_ge _ _ (Nat.le_refl _),chLen,if_neg (Nat.lt_irrefl _)]; rfl
theorem nwLen_over (r:Run):nwLen r r.found.length r.found.length=(fnd r r.found.length).new.length:=by
 rw [fnd,Go.Ab.getD_ge _ _ (Nat.le_refl _),nwLen,if_neg (Nat.lt_irrefl _)]; rfl
theorem rec_eq {α:Type} {i j:Nat} {a:¬ i=j->α} {b:i=j->α} {c:α} (h1:∀ h,a h=c) (h2:∀ h,b h=c):(Decidable.rec a b (instDecidableEqNat i j):α)=c:=by
 cases instDecidableEqNat i j with
 | isTrue h=>exact h2 h
 | isFalse h=>exact h1 h
def end0 (s:Span):Int:=s.lo - 1
end Go.Sh
namespace Go.Ab
open Go Go.RowKit Go.Proofs Go.Sh Go.En
def h7 (r:Run) (m p:Int):Hint:={ X:=Int,M:=fun n=>[(12,iv n)],I:=fun n=>end0 (whenS r m p)<=n/\n<=(whenS r m p).hi + 2,mu:=fun n=>((whenS r m p).hi + 2 - n).toNat,x0:=end0 (whenS r m p),nx:=fun n=>n + 1 }
end Go.Ab
namespace Go.Ab
open Go Go.RowKit Go.Proofs Go.Sh Go.En
end Go.Ab
namespace Go.Sh
theorem or3 {a b c:Bool} (h:(bif bif a then true else b then true else c)=false):a=false/\b=false/\c=false:=by cases a <;> cases b <;> cases c <;> simp_all
theorem known_ok {r:Run} (h:(!known6 r)=false):known6 r=true/\okRun r=true/\One r:=by
 have h1:known6 r=true:=by simpa using h
 refine ⟨h1,?_,one_known h1⟩
 simp only [known6,Bool.and_eq_true] at h1
 exact ready_ok h1.1
theorem small_known {r:Run} (h:known6 r=true) (hf:fits r):small r:=by
 simp only [known6,ready,Bool.and_eq_true,Bool.not_eq_true'] at h
 exact far_small h.1.1 hf
def rfnd (r:Run) (a i k:Nat):Fnd:=if k < i then fnd r (rotIdx r.found.length a k) else fnd r k
end Go.Sh
namespace Go.Ab
open Go Go.RowKit Go.Proofs Go.Sh Go.En
def h11 (r:Run) (a:Int):Hint:={ X:=Nat,M:=fun i=>[(6,iv i),(5,.ptr 5000 [])],H:=fun i=>[(5000,.cells 25 [iv r.plates,iv r.last,.vec 5001,.vec 5002]),(5001,.vec 42 2 r.machines.length (fun k=>cMach (mach r k))),(5002,.vec 32 3 r.found.length (fun k=>cFnd (rfnd r a.toNat i k)))],I:=fun i=>i<=r.found.length,mu:=fun i=>r.found.length - i,x0:=(0:Nat),nx:=fun i=>i + 1 }
end Go.Ab
namespace Go.Ab
open Go Go.RowKit Go.Proofs Go.Sh Go.En
def s53 (r:Run) (f m:Int):CallSpec:={ args:=[vRun r,iv f,iv m],res:=vRun (fromR r f m),pre:=small r/\0<=f/\f < r.found.length }
def c53 (r:Run) (f m:Int) (id:Nat):CallSpec:=s20o r r.machines.length r.found.length id
def s55 (r:Run) (f:Int):CallSpec:={ args:=[vRun r,iv f],res := .tup [iv (leavesV r f.toNat),bv true],pre:=fits r/\okRun r=true/\isOne r=true/\(0<=f/\f < r.found.length)/\2<=(whereS r f).length }
def h55 (r:Run) (f:Int):Hint:={ X:=Nat,M:=fun i=>[(8,iv (worstTo (fun m=>mixesS (fromR r f m)) (whereS r f) i)),(9,iv i)],I:=fun i=>i<=(whereS r f).length,mu:=fun i=>(whereS r f).length - i,x0:=(0:Nat),nx:=fun i=>i + 1 }
def s13 (r:Run) (f m:Int):CallSpec:={ args:=[vRun r,iv f,iv m],res:=bv true,pre:=fits r }
end Go.Ab
namespace Go.Ab
open Go Go.RowKit Go.Proofs Go.Sh Go.En
abbrev q53_1 (r:Run) (f:Int) (m:Int) (C:Prop):Prop:=small r/\0<=f/\f < (↑(r.found.length):Int)->C
theorem w53 (r:Run) (f:Int) (m:Int)
 (o0:q53_1 r f m (chLen r r.machines.length r.machines.length=(mach r r.machines.length).changes.length))
 (o1:q53_1 r f m (∀ (i4:Nat),i4 < (mach r r.machines.length).changes.length->cSpan (chg (mach r r.machines.length) i4) = [iv ((mach r r.machines.length).changes.getD i4 default).lo,iv ((mach r r.machines.length).changes.getD i4 default).hi]))
 (o2:q53_1 r f m (nwLen r r.found.length r.found.length=(fnd r r.found.length).new.length))
 (o3:q53_1 r f m (0<=f))
 (o4:q53_1 r f m (f < (↑(r.found.length):Int)))
 (o5:q53_1 r f m (f.toNat < r.found.length))
 (o6:q53_1 r f m (0<=f))
 (o7:q53_1 r f m (f < (↑(r.found.length):Int)))
 (o8:q53_1 r f m (f.toNat < r.found.length))
 (o9:q53_1 r f m (r.plates=(fromR r f m).plates))
 (o10:q53_1 r f m (r.last=(fromR r f m).last))
 (o11:q53_1 r f m (r.machines.length=(fromR r f m).machines.length))
 (o12:q53_1 r f m (∀ (i13:Nat),i13 < (fromR r f m).machines.length->cMach (mach r i13)=cMach (mach (fromR r f m) i13)))
 (o13:q53_1 r f m (r.found.length=(fromR r f m).found.length))
 (o14:q53_1 r f m (∀ (i15:Nat),i15 < (fromR r f m).found.length->Decidable.rec (fun (h:¬i15=f.toNat)=>cFnd (fnd r i15)) (fun (h:i15=f.toNat)=>[iv (fnd r f.toNat).minute,AV.sl 1 (fnd r f.toNat).new.length fun (i:Nat)=>[iv ((fnd r f.toNat).new.getD i 0)],AV.sl 1 1 fun (j:Nat)=>List.getD [[iv m]] j [iv 0]] ++ []) (instDecidableEqNat i15 f.toNat)=cFnd (fnd (fromR r f m) i15))) :
  Triple Try.prog 53 (s53 r f m):=by
 refine triple_of Try.func53 rfl Try.call53 T0_ok _ rfl rfl rfl rfl (Nat.le_of_ble_eq_true (by kernel_rfl)) (fun _ _ _ _ h=>h) ?_
 intro hp C hC _ hE
 obtain ⟨P,w0,E0,av,hA⟩:=C
 subst hC
 refine swp_seq ?_
 refine sQ (kt:=[1,2,3,6]) (kh:=[0,8]) (q:=tn 2) (st':=ASt.mk [(1,iv f),(2,iv m),(3,.ptr 0 []),(6,.ptr 8 [])] [(0,.cells 25 (cRun r)),(8,.cells 25 [iv 0,iv 0,nilv,nilv])] 16) (tp 2) ?_
 refine swp_seq ?_
 refine sC (cs:=[(1,CallSpec.eq (c53 r f m 24) [true])]) (kt:=[1,2,6,7]) (kh:=[8,32,24,25,27,26]) (q:=True/\((zE (AV.agg (cRun r))/\True)/\Triple Try.prog 20 (c53 r f m 24)/\small r/\True /\ ∀ (i0:Env),True)/\tn 2) (st':=ASt.mk [(1,iv f),(2,iv m),(6,.ptr 8 []),(7,.ptr 32 [])] [(8,.cells 25 [iv 0,iv 0,nilv,nilv]),(32,.cells 25 [iv r.plates,iv r.last,.vec 24,.vec 25]),(24,.vecx 42 2 r.machines.length (fun (k:Nat)=>cMach (mach r k)) r.machines.length [.vec 26,iv (mach r r.machines.length).rate]),(25,.vecx 32 3 r.found.length (fun (k:Nat)=>cFnd (fnd r k)) r.found.length [iv (fnd r r.found.length).minute,.vec 27,.sl 1 (fnd r r.found.length).frm.length fun (i:Nat)=>[iv ((fnd r r.found.length).frm.getD i 0)]]),(27,.vec 3 1 (nwLen r r.found.length r.found.length) fun (p:Nat)=>[iv ((fnd r r.found.length).new.getD p 0)]),(26,.vec 37 2 (chLen r r.machines.length r.machines.length) fun (p:Nat)=>cSpan (chg (mach r r.machines.length) p))] 48) ⟨tv,⟨⟨rfl,tv⟩,(t20o (r) r.machines.length r.found.length (24)),hp.1,tv,(fun i0=>tv)⟩,tp 2⟩ ?_
 refine swp_seq ?_
 refine swp_ent (eQ (st2:=ASt.mk [(1,iv f),(2,iv m),(6,AV.ptr 8 []),(7,AV.ptr 32 [])] [(24,OB.vec 42 2 r.machines.length fun (k:Nat)=>cMach (mach r k)),(25,OB.vec 32 3 r.found.length fun (k:Nat)=>cFnd (fnd r k)),(8,OB.cells 25 [iv 0,iv 0,nilv,nilv]),(32,OB.cells 25 [iv r.plates,iv r.last,AV.vec 24,AV.vec 25])] 48) hE [26,27] [(8,.same 8),(32,.same 32),(24,.same 24),(25,.same 25)] [1,2] [8] (((zT (iv f))/\(zT (iv m))/\(zP 8)/\(zP 32)/\True)/\((42=42/\2=2/\zE (r.machines.length)/\(∀ (i1:Nat),i1 < r.machines.length->i1 ≠ r.machines.length->cMach (mach r i1)=cMach (mach r i1))/\((2=2/\chLen r r.machines.length r.machines.length=(mach r r.machines.length).changes.length /\ ∀ (i4:Nat),i4 < (mach r r.machines.length).changes.length->cSpan (chg (mach r r.machines.length) i4) = [iv ((mach r r.machines.length).changes.getD i4 default).lo,iv ((mach r r.machines.length).changes.getD i4 default).hi])/\(zM (iv (mach r r.machines.length).rate))/\True)/\T2)/\(32=32/\3=3/\zE (r.found.length)/\(∀ (i6:Nat),i6 < r.found.length->i6 ≠ r.found.length->cFnd (fnd r i6)=cFnd (fnd r i6))/\((zM (iv (fnd r r.found.length).minute))/\(1=1/\nwLen r r.found.length r.found.length=(fnd r r.found.length).new.length /\ ∀ (i9:Nat),i9 < (fnd r r.found.length).new.length -> [iv ((fnd r r.found.length).new.getD i9 0)] = [iv ((fnd r r.found.length).new.getD i9 0)])/\(1=1/\(fnd r r.found.length).frm.length=(fnd r r.found.length).frm.length /\ ∀ (i11:Nat),i11 < (fnd r r.found.length).frm.length -> [iv ((fnd r r.found.length).frm.getD i11 0)] = [iv ((fnd r r.found.length).frm.getD i11 0)])/\True)/\T2)/\(zT (OB.cells 25 [iv 0,iv 0,nilv,nilv]))/\(25=25/\((zM (iv r.plates))/\(zM (iv r.last))/\zE (some (Src.same 24))/\zE (some (Src.same 25))/\True)/\true=true)/\True)/\T2) ⟨⟨⟨rfl,rfl⟩,⟨rfl,rfl⟩,⟨rfl,rfl⟩,⟨rfl,rfl⟩,tv⟩,⟨⟨rfl,rfl,rfl,(fun i1=>(fun h2=>(fun h3=>rfl))),⟨⟨rfl,(o0 hp),(fun i4=>(fun h5=>(o1 hp i4 h5)))⟩,⟨rfl,rfl⟩,tv⟩,rfl,rfl⟩,⟨rfl,rfl,rfl,(fun i6=>(fun h7=>(fun h8=>rfl))),⟨⟨rfl,rfl⟩,⟨rfl,(o2 hp),(fun i9=>(fun h10=>rfl))⟩,⟨rfl,rfl,(fun i11=>(fun h12=>rfl))⟩,tv⟩,rfl,rfl⟩,⟨rfl,rfl⟩,⟨rfl,⟨⟨rfl,rfl⟩,⟨rfl,rfl⟩,rfl,rfl,tv⟩,rfl⟩,tv⟩,rfl,rfl⟩) ?_
 refine sQ (kt:=[1,2,6,7,8]) (kh:=[8,32,88,24,25]) (q:=True/\True/\True/\(0<=f/\f < (↑(r.found.length):Int))/\(f.toNat < r.found.length/\True)/\tn 2) (st':=ASt.mk [(1,iv f),(2,iv m),(6,.ptr 8 []),(7,.ptr 32 []),(8,.ptr 88 [])] [(8,.cells 25 [iv 0,iv 0,nilv,nilv]),(32,.cells 25 [iv r.plates,iv r.last,.vec 24,.vec 25]),(88,.cells 32 (cFnd (fnd r f.toNat))),(24,.vec 42 2 r.machines.length fun (k:Nat)=>cMach (mach r k)),(25,.vec 32 3 r.found.length fun (k:Nat)=>cFnd (fnd r k))] 104) ⟨tv,tv,tv,⟨(o3 hp),(o4 hp)⟩,⟨(o5 hp),tv⟩,tp 2⟩ ?_
 refine swp_seq ?_
 refine sQ (kt:=[1,6,7,8]) (kh:=[8,32,88,112,24,25]) (q:=tn 4) (st':=ASt.mk [(1,iv f),(6,.ptr 8 []),(7,.ptr 32 []),(8,.ptr 88 [])] [(8,.cells 25 [iv 0,iv 0,nilv,nilv]),(32,.cells 25 [iv r.plates,iv r.last,.vec 24,.vec 25]),(88,.cells 32 [iv (fnd r f.toNat).minute,aInts (fnd r f.toNat).new,.vec 112]),(112,.vec 3 1 1 fun (j:Nat)=>List.getD [[iv m]] j (TI.za ti3)),(24,.vec 42 2 r.machines.length fun (k:Nat)=>cMach (mach r k)),(25,.vec 32 3 r.found.length fun (k:Nat)=>cFnd (fnd r k))] 136) (tp 4) ?_
 refine swp_seq ?_
 refine sQ (kt:=[6,7]) (kh:=[8,32,24,25]) (q:=True/\True/\True/\True/\(0<=f/\f < (↑(r.found.length):Int))/\(f.toNat < r.found.length/\True)/\True) (st':=ASt.mk [(6,.ptr 8 []),(7,.ptr 32 [])] [(8,.cells 25 [iv 0,iv 0,nilv,nilv]),(32,.cells 25 [iv r.plates,iv r.last,.vec 24,.vec 25]),(24,.vec 42 2 r.machines.length fun (k:Nat)=>cMach (mach r k)),(25,.vec 32 3 r.found.length fun (j:Nat)=>Decidable.rec (fun (h:¬j=f.toNat)=>cFnd (fnd r j)) (fun (h:j=f.toNat)=>[iv (fnd r f.toNat).minute,.sl 1 (fnd r f.toNat).new.length fun (i:Nat)=>[iv ((fnd r f.toNat).new.getD i 0)],.sl 1 1 fun (j:Nat)=>List.getD [[iv m]] j [iv 0]] ++ []) (instDecidableEqNat j f.toNat))] 184) ⟨tv,tv,tv,tv,⟨(o6 hp),(o7 hp)⟩,⟨(o8 hp),tv⟩,tv⟩ ?_
 refine swp_seq ?_
 refine swp_ent (eQ (st2:=ASt.mk [(6,AV.ptr 8 []),(7,AV.ptr 32 [])] [(8,OB.cells 25 [iv 0,iv 0,nilv,nilv]),(32,OB.cells 25 [iv r.plates,iv r.last,AV.vec 24,AV.vec 25]),(24,OB.vec 42 2 r.machines.length fun (k:Nat)=>cMach (mach r k)),(25,OB.vec 32 3 r.found.length fun (j:Nat)=>Decidable.rec (fun (h:¬j=f.toNat)=>cFnd (fnd r j)) (fun (h:j=f.toNat)=>[iv (fnd r f.toNat).minute,AV.sl 1 (fnd r f.toNat).new.length fun (i:Nat)=>[iv ((fnd r f.toNat).new.getD i 0)],AV.sl 1 1 fun (j:Nat)=>List.getD [[iv m]] j [iv 0]] ++ []) (instDecidableEqNat j f.toNat))] 184) hE [] [(8,.same 8),(32,.same 32),(24,.same 24),(25,.same 25)] [] [8,24,25] (((zP 8)/\(zP 32)/\True)/\((zT (OB.cells 25 [iv 0,iv 0,nilv,nilv]))/\(25=25/\((zM (iv r.plates))/\(zM (iv r.last))/\zE (some (Src.same 24))/\zE (some (Src.same 25))/\True)/\true=true)/\(zT (OB.vec 42 2 r.machines.length fun (k:Nat)=>cMach (mach r k)))/\(zT (OB.vec 32 3 r.found.length fun (j:Nat)=>Decidable.rec (fun (h:¬j=f.toNat)=>cFnd (fnd r j)) (fun (h:j=f.toNat)=>[iv (fnd r f.toNat).minute,AV.sl 1 (fnd r f.toNat).new.length fun (i:Nat)=>[iv ((fnd r f.toNat).new.getD i 0)],AV.sl 1 1 fun (j:Nat)=>List.getD [[iv m]] j [iv 0]] ++ []) (instDecidableEqNat j f.toNat)))/\True)/\T2) ⟨⟨⟨rfl,rfl⟩,⟨rfl,rfl⟩,tv⟩,⟨⟨rfl,rfl⟩,⟨rfl,⟨⟨rfl,rfl⟩,⟨rfl,rfl⟩,rfl,rfl,tv⟩,rfl⟩,⟨rfl,rfl⟩,⟨rfl,rfl⟩,tv⟩,rfl,rfl⟩) ?_
 refine sQ (kt:=[6]) (kh:=[8,24,25]) (q:=tn 2) (st':=ASt.mk [(6,.ptr 8 [])] [(8,.cells 25 [iv r.plates,iv r.last,.vec 24,.vec 25]),(24,.vec 42 2 r.machines.length fun (k:Nat)=>cMach (mach r k)),(25,.vec 32 3 r.found.length fun (j:Nat)=>Decidable.rec (fun (h:¬j=f.toNat)=>cFnd (fnd r j)) (fun (h:j=f.toNat)=>[iv (fnd r f.toNat).minute,.sl 1 (fnd r f.toNat).new.length fun (i:Nat)=>[iv ((fnd r f.toNat).new.getD i 0)],.sl 1 1 fun (j:Nat)=>List.getD [[iv m]] j [iv 0]] ++ []) (instDecidableEqNat j f.toNat))] 200) (tp 2) ?_
 refine swp_ret ?_
 exact rQ [24,25] ((True/\True)/\((zN (iv r.plates) (iv (fromR r f m).plates))/\(zN (iv r.last) (iv (fromR r f m).last))/\(2=2/\r.machines.length=(fromR r f m).machines.length /\ ∀ (i13:Nat),i13 < (fromR r f m).machines.length->cMach (mach r i13)=cMach (mach (fromR r f m) i13))/\(3=3/\r.found.length=(fromR r f m).found.length /\ ∀ (i15:Nat),i15 < (fromR r f m).found.length->Decidable.rec (fun (h:¬i15=f.toNat)=>cFnd (fnd r i15)) (fun (h:i15=f.toNat)=>[iv (fnd r f.toNat).minute,AV.sl 1 (fnd r f.toNat).new.length fun (i:Nat)=>[iv ((fnd r f.toNat).new.getD i 0)],AV.sl 1 1 fun (j:Nat)=>List.getD [[iv m]] j [iv 0]] ++ []) (instDecidableEqNat i15 f.toNat)=cFnd (fnd (fromR r f m) i15))/\True)/\T3) ⟨⟨tv,tv⟩,⟨⟨(congrArg iv (o9 hp)),rfl⟩,⟨(congrArg iv (o10 hp)),rfl⟩,⟨rfl,(o11 hp),(fun i13=>(fun h14=>(o12 hp i13 h14)))⟩,⟨rfl,(o13 hp),(fun i15=>(fun h16=>(o14 hp i15 h16)))⟩,tv⟩,rfl,rfl,rfl⟩
theorem t53 (r:Run) (f m:Int):Triple Try.prog 53 (s53 r f m):=by
 apply w53
 case o0=>intro h; exact chLen_over r
 case o2=>intro h; exact nwLen_over r
 case o13=>intro h; exact (len_setF _ _ _).symm
 case o14 =>
  intro h i hi
  have hf:f.toNat < r.found.length:=by omega
  rw [fromR,setFrm,fnd_setF _ hf]
  exact rec_eq (fun h=>by rw [if_neg h]) (fun h=>by rw [if_pos h]; exact congrArg (fun a=>[_,_,a]) (by simp only [aInts]; congr 1; funext j; rcases j with _ | j <;> rfl))
 all_goals (first | ((repeat intro _) <;> (try simp only [v0,v1,v2,v3,v4,v5,v6,v7,v8,v9,inI,fits,Go.Sh.small] at *) <;> first | (exact rfl) | omega | exact vz | (simp_all; done) | (simp_all; omega)) | skip)
abbrev z55_1 (r:Run) (f:Int):LoopAnn:=Hint.ann (h55 r f) [(1,iv f),(2,AV.ptr 0 []),(6,aInts (whereS r f))] [(0,OB.cells 25 (cRun r))] 10232
abbrev q55_1 (r:Run) (f:Int) (C:Prop):Prop:=fits r/\okRun r=true/\isOne r=true/\(0<=f/\f < (↑(r.found.length):Int))/\2<=(whereS r f).length->C
abbrev q55_2 (r:Run) (f:Int) (C:Prop):Prop:=q55_1 r f ((!bif !decide (openE r (isFound r f)=0) then true else decide ((↑((whereS r f).length):Int) < 2))=true->C)
abbrev q55_3 (r:Run) (f:Int) (C:Nat->Prop):Prop:=q55_1 r f (∀ (x26:Nat),x26<=(whereS r f).length->decide ((x26:Int) < (↑((whereS r f).length):Int))=true->C x26)
theorem w55 (r:Run) (f:Int)
 (o0:q55_1 r f ((!decide (openE r (isFound r f)=0))=false->(!!decide (openE r (isFound r f)=0))=true))
 (o1:q55_2 r f (inI ((↑(r.machines.length):Int) - 1)))
 (o2:q55_2 r f ((whereS r f).length<=1125899906842624))
 (o3:q55_1 r f ((bif !decide (openE r (isFound r f)=0) then true else decide ((↑((whereS r f).length):Int) < 2))=false->(!bif !decide (openE r (isFound r f)=0) then true else decide ((↑((whereS r f).length):Int) < 2))=true))
 (o4:q55_1 r f ((bif bif !decide (openE r (isFound r f)=0) then true else decide ((↑((whereS r f).length):Int) < 2) then true else !rising (whereS r f) 0 ((↑(r.machines.length):Int) - 1))=false))
 (o5:q55_1 r f (0=worstTo (fun (m:Int)=>mixesS (fromR r f m)) (whereS r f) 0))
 (o6:q55_1 r f (0=(↑0:Int)))
 (o7:q55_1 r f (0<=(whereS r f).length))
 (o8:q55_3 r f fun x26=>0<=(x26:Int))
 (o9:q55_3 r f fun x26=>(x26:Int) < (↑((whereS r f).length):Int))
 (o10:q55_3 r f fun x26=>small r)
 (o11:q55_3 r f fun x26=>0<=f)
 (o12:q55_3 r f fun x26=>f < (↑(r.found.length):Int))
 (o13:q55_3 r f fun x26=>fits (fromR r f ((whereS r f).getD x26 0)))
 (o14:q55_3 r f fun x26=>(!decide (openE (fromR r f ((whereS r f).getD x26 0)) true=0))=false->(!!decide (openE (fromR r f ((whereS r f).getD x26 0)) true=0))=true)
 (o15:q55_3 r f fun x26=>(bif !decide (openE (fromR r f ((whereS r f).getD x26 0)) true=0) then true else !inside (mixesS (fromR r f ((whereS r f).getD x26 0))) (Span.mk 0 810))=false)
 (o16:q55_3 r f fun x26=>inI ((mixesS (fromR r f ((whereS r f).getD x26 0))).hi - (mixesS (fromR r f ((whereS r f).getD x26 0))).lo))
 (o17:q55_3 r f fun x26=>inI ((x26:Int) + 1))
 (o18:q55_3 r f fun x26=>max (worstTo (fun (m:Int)=>mixesS (fromR r f m)) (whereS r f) x26) ((mixesS (fromR r f ((whereS r f).getD x26 0))).hi - (mixesS (fromR r f ((whereS r f).getD x26 0))).lo)=worstTo (fun (m:Int)=>mixesS (fromR r f m)) (whereS r f) (x26 + 1))
 (o19:q55_3 r f fun x26=>(x26:Int) + 1=(↑(x26 + 1):Int))
 (o20:q55_3 r f fun x26=>x26 + 1<=(whereS r f).length)
 (o21:q55_3 r f fun x26=>(whereS r f).length - (x26 + 1) < (whereS r f).length - x26)
 (o22:q55_1 r f (∀ (x26:Nat),x26<=(whereS r f).length->decide ((x26:Int) < (↑((whereS r f).length):Int))=false->worstTo (fun (m:Int)=>mixesS (fromR r f m)) (whereS r f) x26=leavesV r f.toNat)) :
  Triple Try.prog 55 (s55 r f):=by
 refine triple_of Try.func55 rfl Try.call55 T0_ok _ rfl rfl rfl rfl (Nat.le_of_ble_eq_true (by kernel_rfl)) (fun _ _ _ _ h=>h) ?_
 intro hp C hC _ hE
 obtain ⟨P,w0,E0,av,hA⟩:=C
 subst hC
 refine swp_seq ?_
 refine sQ (kt:=[1,2]) (kh:=[0]) (q:=tn 3) (st':=ASt.mk [(1,iv f),(2,.ptr 0 [])] [(0,.cells 25 (cRun r))] 24) (tp 3) ?_
 refine swp_seq ?_
 refine sC (cs:=[(2,CallSpec.eq (s35 r f) [true,true])]) (kt:=[1,2,6,7]) (kh:=[0]) (q:=True/\True/\((zE (AV.agg (cRun r))/\iv f=iv f/\True)/\Triple Try.prog 35 (s35 r f)/\fits r/\True /\ ∀ (i0:Env),True)/\tn 5) (st':=ASt.mk [(1,iv f),(2,.ptr 0 []),(6,aInts (whereS r f)),(7,iv (openE r (isFound r f)))] [(0,.cells 25 (cRun r))] 88) ⟨tv,tv,⟨⟨rfl,rfl,tv⟩,(t35 (r) (f)),hp.1,tv,(fun i0=>tv)⟩,tp 5⟩ ?_
 refine swp_seq (swp_seq ?_)
 refine sC (cs:=[(13,CallSpec.eq (s52 (whereS r f) 0 ((↑(r.machines.length):Int) - 1)) [false,true,true])]) (kt:=[1,2,6,33]) (kh:=[0]) (q:=True/\True/\True/\((!!decide (openE r (isFound r f)=0))->(True/\True)/\True)/\((!!decide (openE r (isFound r f)=0))->(((!!decide (openE r (isFound r f)=0))->(!!decide (openE r (isFound r f)=0))=true)/\True)/\True)/\((!!decide (openE r (isFound r f)=0))->(((!!decide (openE r (isFound r f)=0))->(!!decide (openE r (isFound r f)=0))=true)/\True/\True)/\True)/\(((!decide (openE r (isFound r f)=0))->True)/\((!decide (openE r (isFound r f)=0))=false->(!!decide (openE r (isFound r f)=0))=true))/\True/\((!bif !decide (openE r (isFound r f)=0) then true else decide ((↑((whereS r f).length):Int) < 2))=true->(True/\True)/\True)/\((!bif !decide (openE r (isFound r f)=0) then true else decide ((↑((whereS r f).length):Int) < 2))=true->(True/\True)/\True)/\((!bif !decide (openE r (isFound r f)=0) then true else decide ((↑((whereS r f).length):Int) < 2))=true->(((!bif !decide (openE r (isFound r f)=0) then true else decide ((↑((whereS r f).length):Int) < 2))=true->(!bif !decide (openE r (isFound r f)=0) then true else decide ((↑((whereS r f).length):Int) < 2))=true)/\True)/\True)/\((!bif !decide (openE r (isFound r f)=0) then true else decide ((↑((whereS r f).length):Int) < 2))=true->(((!bif !decide (openE r (isFound r f)=0) then true else decide ((↑((whereS r f).length):Int) < 2))=true->(!bif !decide (openE r (isFound r f)=0) then true else decide ((↑((whereS r f).length):Int) < 2))=true)/\True)/\True)/\((!bif !decide (openE r (isFound r f)=0) then true else decide ((↑((whereS r f).length):Int) < 2))=true->(((!bif !decide (openE r (isFound r f)=0) then true else decide ((↑((whereS r f).length):Int) < 2))=true->(!bif !decide (openE r (isFound r f)=0) then true else decide ((↑((whereS r f).length):Int) < 2))=true)/\True/\True)/\inI ((↑(r.machines.length):Int) - 1))/\((!bif !decide (openE r (isFound r f)=0) then true else decide ((↑((whereS r f).length):Int) < 2))=true->(True/\((!bif !decide (openE r (isFound r f)=0) then true else decide ((↑((whereS r f).length):Int) < 2))=true->(!bif !decide (openE r (isFound r f)=0) then true else decide ((↑((whereS r f).length):Int) < 2))=true)/\True/\((!bif !decide (openE r (isFound r f)=0) then true else decide ((↑((whereS r f).length):Int) < 2))=true->(!bif !decide (openE r (isFound r f)=0) then true else decide ((↑((whereS r f).length):Int) < 2))=true)/\True)/\((1=1/\(whereS r f).length=(whereS r f).length /\ ∀ (i19:Nat),i19 < (whereS r f).length -> [iv ((whereS r f).getD i19 0)] = [iv ((whereS r f).getD i19 0)])/\iv 0=iv 0/\zE (iv ((↑(r.machines.length):Int) - 1))/\True)/\Triple Try.prog 52 (s52 (whereS r f) 0 ((↑(r.machines.length):Int) - 1))/\(whereS r f).length<=1125899906842624/\True /\ ∀ (i21:Env),True)/\((!bif !decide (openE r (isFound r f)=0) then true else decide ((↑((whereS r f).length):Int) < 2))=true->(((!bif !decide (openE r (isFound r f)=0) then true else decide ((↑((whereS r f).length):Int) < 2))=true->(!bif !decide (openE r (isFound r f)=0) then true else decide ((↑((whereS r f).length):Int) < 2))=true)/\True)/\True)/\(((bif !decide (openE r (isFound r f)=0) then true else decide ((↑((whereS r f).length):Int) < 2))=true->True)/\((bif !decide (openE r (isFound r f)=0) then true else decide ((↑((whereS r f).length):Int) < 2))=false->(!bif !decide (openE r (isFound r f)=0) then true else decide ((↑((whereS r f).length):Int) < 2))=true))/\True) (st':=ASt.mk [(1,iv f),(2,.ptr 0 []),(6,aInts (whereS r f)),(33,bv (bif bif !decide (openE r (isFound r f)=0) then true else decide ((↑((whereS r f).length):Int) < 2) then true else !rising (whereS r f) 0 ((↑(r.machines.length):Int) - 1)))] [(0,.cells 25 (cRun r))] 216) ⟨tv,tv,tv,(fun h1=>⟨⟨tv,tv⟩,tv⟩),(fun h2=>⟨⟨(fun h3=>h2),tv⟩,tv⟩),(fun h4=>⟨⟨(fun h5=>h4),tv,tv⟩,tv⟩),⟨(fun h6=>tv),(fun h7=>(o0 hp h7))⟩,tv,(fun h8=>⟨⟨tv,tv⟩,tv⟩),(fun h9=>⟨⟨tv,tv⟩,tv⟩),(fun h10=>⟨⟨(fun h11=>h10),tv⟩,tv⟩),(fun h12=>⟨⟨(fun h13=>h12),tv⟩,tv⟩),(fun h14=>⟨⟨(fun h15=>h14),tv,tv⟩,(o1 hp h14)⟩),(fun h16=>⟨⟨tv,(fun h17=>h16),tv,(fun h18=>h16),tv⟩,⟨⟨rfl,rfl,(fun i19=>(fun h20=>rfl))⟩,rfl,rfl,tv⟩,(t52 (whereS r f) (0) ((↑(r.machines.length):Int) - 1)),(o2 hp h16),tv,(fun i21=>tv)⟩),(fun h22=>⟨⟨(fun h23=>h22),tv⟩,tv⟩),⟨(fun h24=>tv),(fun h25=>(o3 hp h25))⟩,tv⟩ ?_
 refine swp_cond (bif bif !decide (openE r (isFound r f)=0) then true else decide ((↑((whereS r f).length):Int) < 2) then true else !rising (whereS r f) 0 ((↑(r.machines.length):Int) - 1)) (by kernel_rfl) (fun h=>by cases (h.symm.trans (o4 hp))) (fun _ => ?_)
 refine swp_skip (swp_seq ?_)
 refine sQ (kt:=[1,2,6,8]) (kh:=[0]) (q:=True/\True) (st':=ASt.mk [(1,iv f),(2,.ptr 0 []),(6,aInts (whereS r f)),(8,iv 0)] [(0,.cells 25 (cRun r))] 224) ⟨tv,tv⟩ ?_
 refine swp_seq (swp_seq ?_)
 refine sQ (kt:=[1,2,6,8,9]) (kh:=[0]) (q:=True/\True) (st':=ASt.mk [(1,iv f),(2,.ptr 0 []),(6,aInts (whereS r f)),(8,iv 0),(9,iv 0)] [(0,.cells 25 (cRun r))] 232) ⟨tv,tv⟩ ?_
 refine swp_block ?_
 refine swp_loopA (z55_1 r f) (eQ hE [] [(0,.same 0)] [1,6] [0] (((zT (iv f))/\(zP 0)/\(zT (aInts (whereS r f)))/\(zN (iv 0) (iv (worstTo (fun (m:Int)=>mixesS (fromR r f m)) (whereS r f) 0)))/\(zN (iv 0) (iv (↑0:Int)))/\True)/\((zT (OB.cells 25 (cRun r)))/\True)/\T2) ⟨⟨⟨rfl,rfl⟩,⟨rfl,rfl⟩,⟨rfl,rfl⟩,⟨(congrArg iv (o5 hp)),rfl⟩,⟨(congrArg iv (o6 hp)),rfl⟩,tv⟩,⟨⟨rfl,rfl⟩,tv⟩,rfl,rfl⟩) (o7 hp) (fun (x26:Nat) hx26 => ?_)
 refine swp_seq (swp_seq ?_)
 refine sQ (kt:=[1,2,6,8,9,37]) (kh:=[0]) (q:=tn 4) (st':=ASt.mk [(1,iv f),(2,.ptr 0 []),(6,aInts (whereS r f)),(8,iv (worstTo (fun (m:Int)=>mixesS (fromR r f m)) (whereS r f) x26)),(9,iv (x26:Int)),(37,bv (decide ((x26:Int) < (↑((whereS r f).length):Int))))] [(0,.cells 25 (cRun r))] 10264) (tp 4) ?_
 refine swp_cond (decide ((x26:Int) < (↑((whereS r f).length):Int))) (by kernel_rfl) (fun h27 => ?_) (fun h27 => ?_)
 ·refine swp_skip (swp_seq (swp_block (swp_seq ?_)))
  refine sC (cs:=[(6,CallSpec.eq (s53 r f ((whereS r f).getD x26 0)) [true,true,true]),(7,CallSpec.eq (s27 (fromR r f ((whereS r f).getD x26 0))) [true])]) (kt:=[1,2,6,8,9,10,11]) (kh:=[0,10352]) (q:=True/\True/\True/\True/\(0<=(x26:Int)/\(x26:Int) < (↑((whereS r f).length):Int))/\True/\((zE (AV.agg (cRun r))/\iv f=iv f/\zE (iv ((whereS r f).getD x26 0))/\True)/\Triple Try.prog 53 (s53 r f ((whereS r f).getD x26 0))/\(small r/\0<=f/\f < (↑(r.found.length):Int))/\True /\ ∀ (i28:Env),True)/\((zE (AV.agg (cRun (fromR r f ((whereS r f).getD x26 0))))/\True)/\Triple Try.prog 27 (s27 (fromR r f ((whereS r f).getD x26 0)))/\fits (fromR r f ((whereS r f).getD x26 0))/\True /\ ∀ (i29:Env),True)/\tn 6) (st':=ASt.mk [(1,iv f),(2,.ptr 0 []),(6,aInts (whereS r f)),(8,iv (worstTo (fun (m:Int)=>mixesS (fromR r f m)) (whereS r f) x26)),(9,iv (x26:Int)),(10,.ptr 10352 []),(11,iv (openE (fromR r f ((whereS r f).getD x26 0)) true))] [(0,.cells 25 (cRun r)),(10352,.cells 37 (cSpan (mixesS (fromR r f ((whereS r f).getD x26 0)))))] 10376) ⟨tv,tv,tv,tv,⟨(o8 hp x26 hx26 h27),(o9 hp x26 hx26 h27)⟩,tv,⟨⟨rfl,rfl,rfl,tv⟩,(t53 (r) (f) ((whereS r f).getD x26 0)),⟨(o10 hp x26 hx26 h27),(o11 hp x26 hx26 h27),(o12 hp x26 hx26 h27)⟩,tv,(fun i28=>tv)⟩,⟨⟨rfl,tv⟩,(t27 (fromR r f ((whereS r f).getD x26 0))),(o13 hp x26 hx26 h27),tv,(fun i29=>tv)⟩,tp 6⟩ ?_
  refine swp_seq (swp_seq ?_)
  refine sC (cs:=[(4,CallSpec.eq (s29 0 810) [true,true]),(5,CallSpec.eq (s28 (mixesS (fromR r f ((whereS r f).getD x26 0))) (Span.mk 0 810)) [true,true])]) (kt:=[1,2,6,8,9,10,58]) (kh:=[0,10352]) (q:=True/\True/\True/\((!!decide (openE (fromR r f ((whereS r f).getD x26 0)) true=0))->(True/\True)/\True)/\((!!decide (openE (fromR r f ((whereS r f).getD x26 0)) true=0))->(True/\True/\True/\True)/\(iv 0=iv 0/\iv 810=iv 810/\True)/\Triple Try.prog 29 (s29 0 810)/\True/\True /\ ∀ (i32:Env),True)/\((!!decide (openE (fromR r f ((whereS r f).getD x26 0)) true=0))->(True/\((!!decide (openE (fromR r f ((whereS r f).getD x26 0)) true=0))->(!!decide (openE (fromR r f ((whereS r f).getD x26 0)) true=0))=true)/\((!!decide (openE (fromR r f ((whereS r f).getD x26 0)) true=0))->(!!decide (openE (fromR r f ((whereS r f).getD x26 0)) true=0))=true)/\True)/\(zE (AV.agg (cSpan (mixesS (fromR r f ((whereS r f).getD x26 0)))))/\zE (AV.agg (cSpan (Span.mk 0 810)))/\True)/\Triple Try.prog 28 (s28 (mixesS (fromR r f ((whereS r f).getD x26 0))) (Span.mk 0 810))/\True/\True /\ ∀ (i36:Env),True)/\((!!decide (openE (fromR r f ((whereS r f).getD x26 0)) true=0))->(((!!decide (openE (fromR r f ((whereS r f).getD x26 0)) true=0))->(!!decide (openE (fromR r f ((whereS r f).getD x26 0)) true=0))=true)/\True)/\True)/\(((!decide (openE (fromR r f ((whereS r f).getD x26 0)) true=0))->True)/\((!decide (openE (fromR r f ((whereS r f).getD x26 0)) true=0))=false->(!!decide (openE (fromR r f ((whereS r f).getD x26 0)) true=0))=true))/\True) (st':=ASt.mk [(1,iv f),(2,.ptr 0 []),(6,aInts (whereS r f)),(8,iv (worstTo (fun (m:Int)=>mixesS (fromR r f m)) (whereS r f) x26)),(9,iv (x26:Int)),(10,.ptr 10352 []),(58,bv (bif !decide (openE (fromR r f ((whereS r f).getD x26 0)) true=0) then true else !inside (mixesS (fromR r f ((whereS r f).getD x26 0))) (Span.mk 0 810)))] [(0,.cells 25 (cRun r)),(10352,.cells 37 (cSpan (mixesS (fromR r f ((whereS r f).getD x26 0)))))] 10440) ⟨tv,tv,tv,(fun h30=>⟨⟨tv,tv⟩,tv⟩),(fun h31=>⟨⟨tv,tv,tv,tv⟩,⟨rfl,rfl,tv⟩,(t29 (0) (810)),tv,tv,(fun i32=>tv)⟩),(fun h33=>⟨⟨tv,(fun h34=>h33),(fun h35=>h33),tv⟩,⟨rfl,rfl,tv⟩,(t28 (mixesS (fromR r f ((whereS r f).getD x26 0))) (Span.mk 0 810)),tv,tv,(fun i36=>tv)⟩),(fun h37=>⟨⟨(fun h38=>h37),tv⟩,tv⟩),⟨(fun h39=>tv),(fun h40=>(o14 hp x26 hx26 h27 h40))⟩,tv⟩ ?_
  refine swp_cond (bif !decide (openE (fromR r f ((whereS r f).getD x26 0)) true=0) then true else !inside (mixesS (fromR r f ((whereS r f).getD x26 0))) (Span.mk 0 810)) (by kernel_rfl) (fun h=>by cases (h.symm.trans (o15 hp x26 hx26 h27))) (fun _ => ?_)
  refine swp_skip ?_
  refine sQ (kt:=[1,2,6,8,9]) (kh:=[0]) (q:=True/\True/\True/\True/\True/\inI ((mixesS (fromR r f ((whereS r f).getD x26 0))).hi - (mixesS (fromR r f ((whereS r f).getD x26 0))).lo)/\tn 2) (st':=ASt.mk [(1,iv f),(2,.ptr 0 []),(6,aInts (whereS r f)),(8,iv (max (worstTo (fun (m:Int)=>mixesS (fromR r f m)) (whereS r f) x26) ((mixesS (fromR r f ((whereS r f).getD x26 0))).hi - (mixesS (fromR r f ((whereS r f).getD x26 0))).lo))),(9,iv (x26:Int))] [(0,.cells 25 (cRun r))] 10504) ⟨tv,tv,tv,tv,tv,(o16 hp x26 hx26 h27),tp 2⟩ ?_
  refine sQ (kt:=[1,2,6,8,9]) (kh:=[0]) (q:=True/\inI ((x26:Int) + 1)/\True/\True) (st':=ASt.mk [(1,iv f),(2,.ptr 0 []),(6,aInts (whereS r f)),(8,iv (max (worstTo (fun (m:Int)=>mixesS (fromR r f m)) (whereS r f) x26) ((mixesS (fromR r f ((whereS r f).getD x26 0))).hi - (mixesS (fromR r f ((whereS r f).getD x26 0))).lo))),(9,iv ((x26:Int) + 1))] [(0,.cells 25 (cRun r))] 10528) ⟨tv,(o17 hp x26 hx26 h27),tv,tv⟩ ?_
  exact loop_next (z55_1 r f) x26 (eQ hE [] [(0,.same 0)] [1,6] [0] (((zT (iv f))/\(zP 0)/\(zT (aInts (whereS r f)))/\(zN (iv (max (worstTo (fun (m:Int)=>mixesS (fromR r f m)) (whereS r f) x26) ((mixesS (fromR r f ((whereS r f).getD x26 0))).hi - (mixesS (fromR r f ((whereS r f).getD x26 0))).lo))) (iv (worstTo (fun (m:Int)=>mixesS (fromR r f m)) (whereS r f) (x26 + 1))))/\(zN (iv ((x26:Int) + 1)) (iv (↑(x26 + 1):Int)))/\True)/\((zT (OB.cells 25 (cRun r)))/\True)/\T2) ⟨⟨⟨rfl,rfl⟩,⟨rfl,rfl⟩,⟨rfl,rfl⟩,⟨(congrArg iv (o18 hp x26 hx26 h27)),rfl⟩,⟨(congrArg iv (o19 hp x26 hx26 h27)),rfl⟩,tv⟩,⟨⟨rfl,rfl⟩,tv⟩,rfl,rfl⟩) (o20 hp x26 hx26 h27) (o21 hp x26 hx26 h27)
 ·refine swp_exit (swp_seq ?_)
  refine sQ (kt:=[4,5]) (kh:=[]) (q:=tn 3) (st':=ASt.mk [(4,iv (worstTo (fun (m:Int)=>mixesS (fromR r f m)) (whereS r f) x26)),(5,bv true)] [] 10288) (tp 3) ?_
  refine swp_ret ?_
  exact rQ [] ((True/\True/\True)/\((zN (iv (worstTo (fun (m:Int)=>mixesS (fromR r f m)) (whereS r f) x26)) (iv (leavesV r f.toNat)))/\(zM (bv true))/\True)/\T3) ⟨⟨tv,tv,tv⟩,⟨⟨(congrArg iv (o22 hp x26 hx26 h27)),rfl⟩,⟨rfl,rfl⟩,tv⟩,rfl,rfl,rfl⟩
theorem h55p {r:Run} {f:Int} (h:fits r/\okRun r=true/\isOne r=true/\(0<=f/\f < (↑(List.length (Run.found r)):Int))/\2<=List.length (whereS r f)):∃ g:Nat,f=g/\f.toNat=g/\g < r.found.length/\One r/\isFound r f=true:=by
 obtain ⟨_,h2,h3,h4,_⟩:=h
 refine ⟨f.toNat,by omega,rfl,by omega,(tellF h2 h3).one,isFound_iff.2 h4⟩
theorem t55 (r:Run) (f:Int):Triple Try.prog 55 (s55 r f):=by
  apply w55
  case o5=>intro _; rfl
  case o6=>intro _; rfl
  all_goals (intro hp; obtain ⟨g,e1,e2,hg,hO,hi⟩:=h55p hp; obtain ⟨hfit,hk,h1,h4,hl2⟩:=hp; have hz:=one_open hO hi; have W:=where_facts hO hg; rw [← e1] at W; have hmb:=hO.ok.machines; have hfb:=hO.ok.found)
  case o0=>intro _; rw [hz]; rfl
  case o1=>intro _; exact ⟨by omega,by omega⟩
  case o2=>intro _; omega
  case o3 =>
    intro h
    rw [hz,decide_eq_false (p:=((whereS r f).length:Int) < 2) (by omega)] at h ⊢; simp at h ⊢
  case o4=>rw [hz,decide_eq_false (p:=((whereS r f).length:Int) < 2) (by omega),W.2.2]; rfl
  case o7=>omega
  all_goals (intro x hx hl; simp only [decide_eq_true_eq,decide_eq_false_iff_not] at hl)
  case o22 => have e : x = (whereS r f).length := by omega
              rw [e,leavesV,e2,← e1]; unfold fromR; rw [e2]; rfl
  all_goals (have hw:=Go.Ab.getD_mem (whereS r f) 0 (i:=x) (by omega); have hw2:=hw; rw [e1] at hw; have FW:=from_where hk hO hg hw; have FM:=from_mixes hk hO hg hw; rw [← e1] at FW FM)
  case o8=>omega
  case o9=>omega
  case o10=>exact ok_small hO.ok
  case o11=>omega
  case o12=>omega
  case o13=>unfold fromR; rw [e2]; exact ok_fits FW.2.2.1.ok
  case o14=>unfold fromR; rw [e2,FM.1]; intro _; rfl
  case o15 =>
    unfold fromR; rw [e2,FM.1]
    have:inside (mixesS (setFrm r g [List.getD (whereS r f) x 0])) ⟨0,810⟩=true:=by simp only [inside,Bool.and_eq_true,decide_eq_true_eq]; omega
    rw [this]; rfl
  case o16=>unfold fromR; rw [e2]; exact ⟨by omega,by omega⟩
  case o17=>exact ⟨by omega,by omega⟩
  case o18=>rw [worstTo_succ]
  case o19=>rfl
  case o20=>omega
  case o21=>omega
abbrev q13_1 (r:Run) (f:Int) (m:Int) (C:Prop):Prop:=fits r->(bif bif !known6 r then true else !isFound r f then true else !isMachine r m)=false->C
abbrev q13_2 (r:Run) (f:Int) (m:Int) (C:Prop):Prop:=q13_1 r f m ((!bif !decide (openE r (isFound r f)=0) then true else decide ((↑((whereS r f).length):Int)=0))=true->C)
abbrev q13_3 (r:Run) (f:Int) (m:Int) (C:Prop):Prop:=q13_1 r f m (isIn (fnd r f.toNat).frm m=true->C)
abbrev q13_4 (r:Run) (f:Int) (m:Int) (C:Prop):Prop:=q13_3 r f m (decide ((↑((whereS r f).length):Int) < 2)=false->C)
abbrev q13_5 (r:Run) (f:Int) (m:Int) (C:Prop):Prop:=q13_1 r f m (isIn (fnd r f.toNat).frm m=false->C)
abbrev q13_6 (r:Run) (f:Int) (m:Int) (C:Prop):Prop:=q13_5 r f m (decide ((↑((whereS r f).length):Int) < 2)=false->C)
theorem w13 (r:Run) (f:Int) (m:Int)
 (o0:fits r->(!known6 r)=false->(!!known6 r)=true)
 (o1:fits r->(bif !known6 r then true else !isFound r f)=false->(!bif !known6 r then true else !isFound r f)=true)
 (o2:q13_1 r f m ((!decide (openE r (isFound r f)=0))=false->(!!decide (openE r (isFound r f)=0))=true))
 (o3:q13_2 r f m (inI ((↑(r.machines.length):Int) - 1)))
 (o4:q13_2 r f m ((whereS r f).length<=1125899906842624))
 (o5:q13_1 r f m ((bif !decide (openE r (isFound r f)=0) then true else decide ((↑((whereS r f).length):Int)=0))=false->(!bif !decide (openE r (isFound r f)=0) then true else decide ((↑((whereS r f).length):Int)=0))=true))
 (o6:q13_1 r f m ((bif bif !decide (openE r (isFound r f)=0) then true else decide ((↑((whereS r f).length):Int)=0) then true else !rising (whereS r f) 0 ((↑(r.machines.length):Int) - 1))=false))
 (o7:q13_1 r f m (0<=f))
 (o8:q13_1 r f m (f < (↑(r.found.length):Int)))
 (o9:q13_1 r f m ((fnd r f.toNat).frm.length<=1125899906842624))
 (o10:q13_3 r f m (small r))
 (o11:q13_3 r f m (0<=f))
 (o12:q13_3 r f m (f < (↑(r.found.length):Int)))
 (o13:q13_3 r f m (fits (fromR r f m)))
 (o14:q13_3 r f m ((!bif !decide (openE (fromR r f m) true=0) then !decide (openE (fromR r f m) true=3) else false)=true->(whereS r f).length<=1125899906842624))
 (o15:q13_3 r f m ((bif !decide (openE (fromR r f m) true=0) then !decide (openE (fromR r f m) true=3) else false)=false->(!bif !decide (openE (fromR r f m) true=0) then !decide (openE (fromR r f m) true=3) else false)=true))
 (o16:q13_3 r f m ((bif bif !decide (openE (fromR r f m) true=0) then !decide (openE (fromR r f m) true=3) else false then true else !decide (openE (fromR r f m) true=0) == isIn (whereS r f) m)=false))
 (o17:q13_3 r f m (decide ((↑((whereS r f).length):Int) < 2)=true->decide ((seekP r).2=0)=false->(!decide ((seekP r).2=0))=true))
 (o18:q13_3 r f m (decide ((↑((whereS r f).length):Int) < 2)=true->(bif bif decide ((seekP r).2=0) then true else decide ((seekP r).2=3) then true else false)=true))
 (o19:q13_4 r f m ((!decide ((seekP r).2=0))=false->(!!decide ((seekP r).2=0))=true))
 (o20:q13_4 r f m ((bif !decide ((seekP r).2=0) then true else !isFound r (seekP r).1)=false))
 (o21:q13_4 r f m (okRun r=true))
 (o22:q13_4 r f m (isOne r=true))
 (o23:q13_4 r f m (0<=(seekP r).1))
 (o24:q13_4 r f m ((seekP r).1 < (↑(r.found.length):Int)))
 (o25:q13_4 r f m (2<=(whereS r (seekP r).1).length))
 (o26:q13_4 r f m (okRun r=true))
 (o27:q13_4 r f m (isOne r=true))
 (o28:q13_4 r f m (0<=f))
 (o29:q13_4 r f m (f < (↑(r.found.length):Int)))
 (o30:q13_4 r f m (2<=(whereS r f).length))
 (o31:q13_4 r f m (decide (leavesV r (seekP r).1.toNat<=leavesV r f.toNat)=true->decide (leavesV r (seekP r).1.toNat < leavesV r f.toNat)=false->(decide (leavesV r (seekP r).1.toNat<=leavesV r f.toNat) && !decide (leavesV r (seekP r).1.toNat < leavesV r f.toNat))=true))
 (o32:q13_4 r f m ((bif bif decide (leavesV r (seekP r).1.toNat<=leavesV r f.toNat) then bif decide (leavesV r (seekP r).1.toNat < leavesV r f.toNat) then true else decide ((seekP r).1<=f) else false then true else false)=true))
 (o33:q13_5 r f m ((whereS r f).length<=1125899906842624))
 (o34:q13_5 r f m (isIn (whereS r f) m=false))
 (o35:q13_5 r f m (decide ((↑((whereS r f).length):Int) < 2)=true->decide ((seekP r).2=0)=false->(!decide ((seekP r).2=0))=true))
 (o36:q13_5 r f m (decide ((↑((whereS r f).length):Int) < 2)=true->(bif bif decide ((seekP r).2=0) then true else decide ((seekP r).2=3) then true else false)=true))
 (o37:q13_6 r f m ((!decide ((seekP r).2=0))=false->(!!decide ((seekP r).2=0))=true))
 (o38:q13_6 r f m ((bif !decide ((seekP r).2=0) then true else !isFound r (seekP r).1)=false))
 (o39:q13_6 r f m (okRun r=true))
 (o40:q13_6 r f m (isOne r=true))
 (o41:q13_6 r f m (0<=(seekP r).1))
 (o42:q13_6 r f m ((seekP r).1 < (↑(r.found.length):Int)))
 (o43:q13_6 r f m (2<=(whereS r (seekP r).1).length))
 (o44:q13_6 r f m (okRun r=true))
 (o45:q13_6 r f m (isOne r=true))
 (o46:q13_6 r f m (0<=f))
 (o47:q13_6 r f m (f < (↑(r.found.length):Int)))
 (o48:q13_6 r f m (2<=(whereS r f).length))
 (o49:q13_6 r f m (decide (leavesV r (seekP r).1.toNat<=leavesV r f.toNat)=true->decide (leavesV r (seekP r).1.toNat < leavesV r f.toNat)=false->(decide (leavesV r (seekP r).1.toNat<=leavesV r f.toNat) && !decide (leavesV r (seekP r).1.toNat < leavesV r f.toNat))=true))
 (o50:q13_6 r f m ((bif bif decide (leavesV r (seekP r).1.toNat<=leavesV r f.toNat) then bif decide (leavesV r (seekP r).1.toNat < leavesV r f.toNat) then true else decide ((seekP r).1<=f) else false then true else false)=true)) :
  Triple Try.prog 13 (s13 r f m):=by
 refine triple_of Try.func13 rfl Try.call13 T0_ok _ rfl rfl rfl rfl (Nat.le_of_ble_eq_true (by kernel_rfl)) (fun _ _ _ _ h=>h) ?_
 intro hp C hC _ hE
 obtain ⟨P,w0,E0,av,hA⟩:=C
 subst hC
 refine swp_seq ?_
 refine sQ (kt:=[1,2,3]) (kh:=[0]) (q:=tn 2) (st':=ASt.mk [(1,iv f),(2,iv m),(3,.ptr 0 [])] [(0,.cells 25 (cRun r))] 16) (tp 2) ?_
 refine swp_seq (swp_seq ?_)
 refine sC (cs:=[(1,CallSpec.eq (s21 r) [true]),(6,CallSpec.eq (s45 r f) [true,true]),(12,CallSpec.eq (s18 r m) [true,true])]) (kt:=[1,2,3,31]) (kh:=[0]) (q:=True/\((zE (AV.agg (cRun r))/\True)/\Triple Try.prog 21 (s21 r)/\fits r/\True /\ ∀ (i0:Env),True)/\True/\True/\((!!known6 r)=true->(True/\True)/\True)/\((!!known6 r)=true->(True/\True)/\True)/\((!!known6 r)=true->(True/\((!!known6 r)=true->(!!known6 r)=true)/\((!!known6 r)=true->(!!known6 r)=true)/\True)/\(zE (AV.agg (cRun r))/\iv f=iv f/\True)/\Triple Try.prog 45 (s45 r f)/\fits r/\True /\ ∀ (i6:Env),True)/\((!!known6 r)=true->(((!!known6 r)=true->(!!known6 r)=true)/\True)/\True)/\(((!known6 r)=true->True)/\((!known6 r)=false->(!!known6 r)=true))/\True/\((!bif !known6 r then true else !isFound r f)=true->(True/\True)/\True)/\((!bif !known6 r then true else !isFound r f)=true->(True/\True)/\True)/\((!bif !known6 r then true else !isFound r f)=true->(True/\((!bif !known6 r then true else !isFound r f)=true->(!bif !known6 r then true else !isFound r f)=true)/\((!bif !known6 r then true else !isFound r f)=true->(!bif !known6 r then true else !isFound r f)=true)/\True)/\(zE (AV.agg (cRun r))/\iv m=iv m/\True)/\Triple Try.prog 18 (s18 r m)/\fits r/\True /\ ∀ (i16:Env),True)/\((!bif !known6 r then true else !isFound r f)=true->(((!bif !known6 r then true else !isFound r f)=true->(!bif !known6 r then true else !isFound r f)=true)/\True)/\True)/\(((bif !known6 r then true else !isFound r f)=true->True)/\((bif !known6 r then true else !isFound r f)=false->(!bif !known6 r then true else !isFound r f)=true))/\True) (st':=ASt.mk [(1,iv f),(2,iv m),(3,.ptr 0 []),(31,bv (bif bif !known6 r then true else !isFound r f then true else !isMachine r m))] [(0,.cells 25 (cRun r))] 136) ⟨tv,⟨⟨rfl,tv⟩,(t21 (r)),hp,tv,(fun i0=>tv)⟩,tv,tv,(fun h1=>⟨⟨tv,tv⟩,tv⟩),(fun h2=>⟨⟨tv,tv⟩,tv⟩),(fun h3=>⟨⟨tv,(fun h4=>h3),(fun h5=>h3),tv⟩,⟨rfl,rfl,tv⟩,(t45 (r) (f)),hp,tv,(fun i6=>tv)⟩),(fun h7=>⟨⟨(fun h8=>h7),tv⟩,tv⟩),⟨(fun h9=>tv),(fun h10=>(o0 hp h10))⟩,tv,(fun h11=>⟨⟨tv,tv⟩,tv⟩),(fun h12=>⟨⟨tv,tv⟩,tv⟩),(fun h13=>⟨⟨tv,(fun h14=>h13),(fun h15=>h13),tv⟩,⟨rfl,rfl,tv⟩,(t18 (r) (m)),hp,tv,(fun i16=>tv)⟩),(fun h17=>⟨⟨(fun h18=>h17),tv⟩,tv⟩),⟨(fun h19=>tv),(fun h20=>(o1 hp h20))⟩,tv⟩ ?_
 refine swp_cond (bif bif !known6 r then true else !isFound r f then true else !isMachine r m) (by kernel_rfl) (fun h21 => ?_) (fun h21 => ?_)
 ·refine swp_seq ?_
  refine sC (cs:=[(0,CallSpec.eq s19 [])]) (kt:=[6]) (kh:=[]) (q:=(True/\Triple Try.prog 19 s19/\True/\True /\ ∀ (i22:Env),True)/\True/\True) (st':=ASt.mk [(6,bv true)] [] 152) ⟨⟨tv,(t19),tv,tv,(fun i22=>tv)⟩,tv,tv⟩ ?_
  refine swp_ret ?_
  exact rQ [] ((True/\True)/\(zM (bv true))/\T3) ⟨⟨tv,tv⟩,⟨rfl,rfl⟩,rfl,rfl,rfl⟩
 ·refine swp_skip (swp_seq ?_)
  refine sC (cs:=[(2,CallSpec.eq (s35 r f) [true,true])]) (kt:=[1,2,3,7,8]) (kh:=[0]) (q:=True/\True/\((zE (AV.agg (cRun r))/\iv f=iv f/\True)/\Triple Try.prog 35 (s35 r f)/\fits r/\True /\ ∀ (i23:Env),True)/\tn 5) (st':=ASt.mk [(1,iv f),(2,iv m),(3,.ptr 0 []),(7,aInts (whereS r f)),(8,iv (openE r (isFound r f)))] [(0,.cells 25 (cRun r))] 200) ⟨tv,tv,⟨⟨rfl,rfl,tv⟩,(t35 (r) (f)),hp,tv,(fun i23=>tv)⟩,tp 5⟩ ?_
  refine swp_seq (swp_seq ?_)
  refine sC (cs:=[(13,CallSpec.eq (s52 (whereS r f) 0 ((↑(r.machines.length):Int) - 1)) [false,true,true])]) (kt:=[1,2,3,7,54]) (kh:=[0]) (q:=True/\True/\True/\((!!decide (openE r (isFound r f)=0))->(True/\True)/\True)/\((!!decide (openE r (isFound r f)=0))->(((!!decide (openE r (isFound r f)=0))->(!!decide (openE r (isFound r f)=0))=true)/\True)/\True)/\((!!decide (openE r (isFound r f)=0))->(((!!decide (openE r (isFound r f)=0))->(!!decide (openE r (isFound r f)=0))=true)/\True/\True)/\True)/\(((!decide (openE r (isFound r f)=0))->True)/\((!decide (openE r (isFound r f)=0))=false->(!!decide (openE r (isFound r f)=0))=true))/\True/\((!bif !decide (openE r (isFound r f)=0) then true else decide ((↑((whereS r f).length):Int)=0))=true->(True/\True)/\True)/\((!bif !decide (openE r (isFound r f)=0) then true else decide ((↑((whereS r f).length):Int)=0))=true->(True/\True)/\True)/\((!bif !decide (openE r (isFound r f)=0) then true else decide ((↑((whereS r f).length):Int)=0))=true->(((!bif !decide (openE r (isFound r f)=0) then true else decide ((↑((whereS r f).length):Int)=0))=true->(!bif !decide (openE r (isFound r f)=0) then true else decide ((↑((whereS r f).length):Int)=0))=true)/\True)/\True)/\((!bif !decide (openE r (isFound r f)=0) then true else decide ((↑((whereS r f).length):Int)=0))=true->(((!bif !decide (openE r (isFound r f)=0) then true else decide ((↑((whereS r f).length):Int)=0))=true->(!bif !decide (openE r (isFound r f)=0) then true else decide ((↑((whereS r f).length):Int)=0))=true)/\True)/\True)/\((!bif !decide (openE r (isFound r f)=0) then true else decide ((↑((whereS r f).length):Int)=0))=true->(((!bif !decide (openE r (isFound r f)=0) then true else decide ((↑((whereS r f).length):Int)=0))=true->(!bif !decide (openE r (isFound r f)=0) then true else decide ((↑((whereS r f).length):Int)=0))=true)/\True/\True)/\inI ((↑(r.machines.length):Int) - 1))/\((!bif !decide (openE r (isFound r f)=0) then true else decide ((↑((whereS r f).length):Int)=0))=true->(True/\((!bif !decide (openE r (isFound r f)=0) then true else decide ((↑((whereS r f).length):Int)=0))=true->(!bif !decide (openE r (isFound r f)=0) then true else decide ((↑((whereS r f).length):Int)=0))=true)/\True/\((!bif !decide (openE r (isFound r f)=0) then true else decide ((↑((whereS r f).length):Int)=0))=true->(!bif !decide (openE r (isFound r f)=0) then true else decide ((↑((whereS r f).length):Int)=0))=true)/\True)/\((1=1/\(whereS r f).length=(whereS r f).length /\ ∀ (i42:Nat),i42 < (whereS r f).length -> [iv ((whereS r f).getD i42 0)] = [iv ((whereS r f).getD i42 0)])/\iv 0=iv 0/\zE (iv ((↑(r.machines.length):Int) - 1))/\True)/\Triple Try.prog 52 (s52 (whereS r f) 0 ((↑(r.machines.length):Int) - 1))/\(whereS r f).length<=1125899906842624/\True /\ ∀ (i44:Env),True)/\((!bif !decide (openE r (isFound r f)=0) then true else decide ((↑((whereS r f).length):Int)=0))=true->(((!bif !decide (openE r (isFound r f)=0) then true else decide ((↑((whereS r f).length):Int)=0))=true->(!bif !decide (openE r (isFound r f)=0) then true else decide ((↑((whereS r f).length):Int)=0))=true)/\True)/\True)/\(((bif !decide (openE r (isFound r f)=0) then true else decide ((↑((whereS r f).length):Int)=0))=true->True)/\((bif !decide (openE r (isFound r f)=0) then true else decide ((↑((whereS r f).length):Int)=0))=false->(!bif !decide (openE r (isFound r f)=0) then true else decide ((↑((whereS r f).length):Int)=0))=true))/\True) (st':=ASt.mk [(1,iv f),(2,iv m),(3,.ptr 0 []),(7,aInts (whereS r f)),(54,bv (bif bif !decide (openE r (isFound r f)=0) then true else decide ((↑((whereS r f).length):Int)=0) then true else !rising (whereS r f) 0 ((↑(r.machines.length):Int) - 1)))] [(0,.cells 25 (cRun r))] 328) ⟨tv,tv,tv,(fun h24=>⟨⟨tv,tv⟩,tv⟩),(fun h25=>⟨⟨(fun h26=>h25),tv⟩,tv⟩),(fun h27=>⟨⟨(fun h28=>h27),tv,tv⟩,tv⟩),⟨(fun h29=>tv),(fun h30=>(o2 hp h21 h30))⟩,tv,(fun h31=>⟨⟨tv,tv⟩,tv⟩),(fun h32=>⟨⟨tv,tv⟩,tv⟩),(fun h33=>⟨⟨(fun h34=>h33),tv⟩,tv⟩),(fun h35=>⟨⟨(fun h36=>h35),tv⟩,tv⟩),(fun h37=>⟨⟨(fun h38=>h37),tv,tv⟩,(o3 hp h21 h37)⟩),(fun h39=>⟨⟨tv,(fun h40=>h39),tv,(fun h41=>h39),tv⟩,⟨⟨rfl,rfl,(fun i42=>(fun h43=>rfl))⟩,rfl,rfl,tv⟩,(t52 (whereS r f) (0) ((↑(r.machines.length):Int) - 1)),(o4 hp h21 h39),tv,(fun i44=>tv)⟩),(fun h45=>⟨⟨(fun h46=>h45),tv⟩,tv⟩),⟨(fun h47=>tv),(fun h48=>(o5 hp h21 h48))⟩,tv⟩ ?_
  refine swp_cond (bif bif !decide (openE r (isFound r f)=0) then true else decide ((↑((whereS r f).length):Int)=0) then true else !rising (whereS r f) 0 ((↑(r.machines.length):Int) - 1)) (by kernel_rfl) (fun h=>by cases (h.symm.trans (o6 hp h21))) (fun _ => ?_)
  refine swp_skip (swp_seq (swp_seq ?_))
  refine sC (cs:=[(7,CallSpec.eq (s51 (fnd r f.toNat).frm m) [true,true])]) (kt:=[1,2,3,7,62]) (kh:=[0]) (q:=True/\True/\True/\(0<=f/\f < (↑(r.found.length):Int))/\True/\True/\True/\((zE (aInts (fnd r f.toNat).frm)/\iv m=iv m/\True)/\Triple Try.prog 51 (s51 (fnd r f.toNat).frm m)/\(fnd r f.toNat).frm.length<=1125899906842624/\True /\ ∀ (i49:Env),True)/\True) (st':=ASt.mk [(1,iv f),(2,iv m),(3,.ptr 0 []),(7,aInts (whereS r f)),(62,bv (isIn (fnd r f.toNat).frm m))] [(0,.cells 25 (cRun r))] 392) ⟨tv,tv,tv,⟨(o7 hp h21),(o8 hp h21)⟩,tv,tv,tv,⟨⟨rfl,rfl,tv⟩,(t51 (fnd r f.toNat).frm (m)),(o9 hp h21),tv,(fun i49=>tv)⟩,tv⟩ ?_
  refine swp_cond (isIn (fnd r f.toNat).frm m) (by kernel_rfl) (fun h50 => ?_) (fun h50 => ?_)
  ·refine swp_seq ?_
   refine sC (cs:=[(3,CallSpec.eq (s53 r f m) [true,true,true]),(4,CallSpec.eq (s41 (fromR r f m)) [true])]) (kt:=[1,2,3,7,10]) (kh:=[0]) (q:=True/\True/\True/\((zE (AV.agg (cRun r))/\iv f=iv f/\iv m=iv m/\True)/\Triple Try.prog 53 (s53 r f m)/\(small r/\0<=f/\f < (↑(r.found.length):Int))/\True /\ ∀ (i51:Env),True)/\((zE (AV.agg (cRun (fromR r f m)))/\True)/\Triple Try.prog 41 (s41 (fromR r f m))/\fits (fromR r f m)/\True /\ ∀ (i52:Env),True)/\tn 6) (st':=ASt.mk [(1,iv f),(2,iv m),(3,.ptr 0 []),(7,aInts (whereS r f)),(10,iv (openE (fromR r f m) true))] [(0,.cells 25 (cRun r))] 480) ⟨tv,tv,tv,⟨⟨rfl,rfl,rfl,tv⟩,(t53 (r) (f) (m)),⟨(o10 hp h21 h50),(o11 hp h21 h50),(o12 hp h21 h50)⟩,tv,(fun i51=>tv)⟩,⟨⟨rfl,tv⟩,(t41 (fromR r f m)),(o13 hp h21 h50),tv,(fun i52=>tv)⟩,tp 6⟩ ?_
   refine swp_seq ?_
   refine sC (cs:=[(11,CallSpec.eq (s51 (whereS r f) m) [false,true])]) (kt:=[1,3,7,84]) (kh:=[0]) (q:=True/\True/\True/\((!decide (openE (fromR r f m) true=0))->(True/\True)/\True)/\((!decide (openE (fromR r f m) true=0))->(((!decide (openE (fromR r f m) true=0))->(!decide (openE (fromR r f m) true=0))=true)/\True/\True)/\True)/\(((!decide (openE (fromR r f m) true=0))->(!decide (openE (fromR r f m) true=0))=true)/\((!decide (openE (fromR r f m) true=0))=false->True))/\True/\((!bif !decide (openE (fromR r f m) true=0) then !decide (openE (fromR r f m) true=3) else false)=true->(True/\True)/\True)/\((!bif !decide (openE (fromR r f m) true=0) then !decide (openE (fromR r f m) true=3) else false)=true->(((!bif !decide (openE (fromR r f m) true=0) then !decide (openE (fromR r f m) true=3) else false)=true->(!bif !decide (openE (fromR r f m) true=0) then !decide (openE (fromR r f m) true=3) else false)=true)/\True/\True)/\True)/\((!bif !decide (openE (fromR r f m) true=0) then !decide (openE (fromR r f m) true=3) else false)=true->(True/\True)/\True)/\((!bif !decide (openE (fromR r f m) true=0) then !decide (openE (fromR r f m) true=3) else false)=true->(True/\True)/\True)/\((!bif !decide (openE (fromR r f m) true=0) then !decide (openE (fromR r f m) true=3) else false)=true->(True/\((!bif !decide (openE (fromR r f m) true=0) then !decide (openE (fromR r f m) true=3) else false)=true->(!bif !decide (openE (fromR r f m) true=0) then !decide (openE (fromR r f m) true=3) else false)=true)/\((!bif !decide (openE (fromR r f m) true=0) then !decide (openE (fromR r f m) true=3) else false)=true->(!bif !decide (openE (fromR r f m) true=0) then !decide (openE (fromR r f m) true=3) else false)=true)/\True)/\((1=1/\(whereS r f).length=(whereS r f).length /\ ∀ (i66:Nat),i66 < (whereS r f).length -> [iv ((whereS r f).getD i66 0)] = [iv ((whereS r f).getD i66 0)])/\iv m=iv m/\True)/\Triple Try.prog 51 (s51 (whereS r f) m)/\(whereS r f).length<=1125899906842624/\True /\ ∀ (i68:Env),True)/\((!bif !decide (openE (fromR r f m) true=0) then !decide (openE (fromR r f m) true=3) else false)=true->(((!bif !decide (openE (fromR r f m) true=0) then !decide (openE (fromR r f m) true=3) else false)=true->(!bif !decide (openE (fromR r f m) true=0) then !decide (openE (fromR r f m) true=3) else false)=true)/\((!bif !decide (openE (fromR r f m) true=0) then !decide (openE (fromR r f m) true=3) else false)=true->(!bif !decide (openE (fromR r f m) true=0) then !decide (openE (fromR r f m) true=3) else false)=true)/\True)/\True)/\(((bif !decide (openE (fromR r f m) true=0) then !decide (openE (fromR r f m) true=3) else false)=true->True)/\((bif !decide (openE (fromR r f m) true=0) then !decide (openE (fromR r f m) true=3) else false)=false->(!bif !decide (openE (fromR r f m) true=0) then !decide (openE (fromR r f m) true=3) else false)=true))/\True) (st':=ASt.mk [(1,iv f),(3,.ptr 0 []),(7,aInts (whereS r f)),(84,bv (bif bif !decide (openE (fromR r f m) true=0) then !decide (openE (fromR r f m) true=3) else false then true else !decide (openE (fromR r f m) true=0) == isIn (whereS r f) m))] [(0,.cells 25 (cRun r))] 592) ⟨tv,tv,tv,(fun h53=>⟨⟨tv,tv⟩,tv⟩),(fun h54=>⟨⟨(fun h55=>h54),tv,tv⟩,tv⟩),⟨(fun h56=>h56),(fun h57=>tv)⟩,tv,(fun h58=>⟨⟨tv,tv⟩,tv⟩),(fun h59=>⟨⟨(fun h60=>h59),tv,tv⟩,tv⟩),(fun h61=>⟨⟨tv,tv⟩,tv⟩),(fun h62=>⟨⟨tv,tv⟩,tv⟩),(fun h63=>⟨⟨tv,(fun h64=>h63),(fun h65=>h63),tv⟩,⟨⟨rfl,rfl,(fun i66=>(fun h67=>rfl))⟩,rfl,tv⟩,(t51 (whereS r f) (m)),(o14 hp h21 h50 h63),tv,(fun i68=>tv)⟩),(fun h69=>⟨⟨(fun h70=>h69),(fun h71=>h69),tv⟩,tv⟩),⟨(fun h72=>tv),(fun h73=>(o15 hp h21 h50 h73))⟩,tv⟩ ?_
   refine swp_cond (bif bif !decide (openE (fromR r f m) true=0) then !decide (openE (fromR r f m) true=3) else false then true else !decide (openE (fromR r f m) true=0) == isIn (whereS r f) m) (by kernel_rfl) (fun h=>by cases (h.symm.trans (o16 hp h21 h50))) (fun _ => ?_)
   refine swp_skip (swp_seq ?_)
   refine sC (cs:=[(1,CallSpec.eq (s54 r) [true])]) (kt:=[1,3,7,11,12]) (kh:=[0]) (q:=True/\((zE (AV.agg (cRun r))/\True)/\Triple Try.prog 54 (s54 r)/\fits r/\True /\ ∀ (i74:Env),True)/\tn 5) (st':=ASt.mk [(1,iv f),(3,.ptr 0 []),(7,aInts (whereS r f)),(11,iv (seekP r).1),(12,iv (seekP r).2)] [(0,.cells 25 (cRun r))] 648) ⟨tv,⟨⟨rfl,tv⟩,(t54 (r)),hp,tv,(fun i74=>tv)⟩,tp 5⟩ ?_
   refine swp_seq (swp_seq ?_)
   refine sQ (kt:=[1,3,11,12,95]) (kh:=[0]) (q:=tn 3) (st':=ASt.mk [(1,iv f),(3,.ptr 0 []),(11,iv (seekP r).1),(12,iv (seekP r).2),(95,bv (decide ((↑((whereS r f).length):Int) < 2)))] [(0,.cells 25 (cRun r))] 672) (tp 3) ?_
   refine swp_cond (decide ((↑((whereS r f).length):Int) < 2)) (by kernel_rfl) (fun h75 => ?_) (fun h75 => ?_)
   ·refine swp_seq ?_
    refine sC (cs:=[(7,CallSpec.eq s19 [])]) (kt:=[6]) (kh:=[]) (q:=True/\True/\True/\((!decide ((seekP r).2=0))->(True/\True)/\True)/\((!decide ((seekP r).2=0))->(((!decide ((seekP r).2=0))->(!decide ((seekP r).2=0))=true)/\True/\True)/\True)/\((decide ((seekP r).2=0)=true->True)/\(decide ((seekP r).2=0)=false->(!decide ((seekP r).2=0))=true))/\True/\((bif decide ((seekP r).2=0) then true else decide ((seekP r).2=3))=true->(True/\True)/\True/\Triple Try.prog 19 s19/\True/\True /\ ∀ (i82:Env),True)/\(((bif decide ((seekP r).2=0) then true else decide ((seekP r).2=3))=true->(bif decide ((seekP r).2=0) then true else decide ((seekP r).2=3))=true)/\((bif decide ((seekP r).2=0) then true else decide ((seekP r).2=3))=false->True))/\True/\True) (st':=ASt.mk [(6,bv (bif bif decide ((seekP r).2=0) then true else decide ((seekP r).2=3) then true else false))] [] 752) ⟨tv,tv,tv,(fun h76=>⟨⟨tv,tv⟩,tv⟩),(fun h77=>⟨⟨(fun h78=>h77),tv,tv⟩,tv⟩),⟨(fun h79=>tv),(fun h80=>(o17 hp h21 h50 h75 h80))⟩,tv,(fun h81=>⟨⟨tv,tv⟩,tv,(t19),tv,tv,(fun i82=>tv)⟩),⟨(fun h83=>h83),(fun h84=>tv)⟩,tv,tv⟩ ?_
    refine swp_ret ?_
    exact rQ [] ((True/\True)/\(zN (bv (bif bif decide ((seekP r).2=0) then true else decide ((seekP r).2=3) then true else false)) (bv true))/\T3) ⟨⟨tv,tv⟩,⟨(congrArg bv (o18 hp h21 h50 h75)),rfl⟩,rfl,rfl,rfl⟩
   ·refine swp_skip (swp_seq (swp_seq ?_))
    refine sC (cs:=[(5,CallSpec.eq (s45 r (seekP r).1) [true,true])]) (kt:=[1,3,11,112]) (kh:=[0]) (q:=True/\True/\True/\((!!decide ((seekP r).2=0))->(True/\True)/\True)/\((!!decide ((seekP r).2=0))->(True/\True)/\True)/\((!!decide ((seekP r).2=0))->(True/\((!!decide ((seekP r).2=0))->(!!decide ((seekP r).2=0))=true)/\((!!decide ((seekP r).2=0))->(!!decide ((seekP r).2=0))=true)/\True)/\(zE (AV.agg (cRun r))/\zE (iv (seekP r).1)/\True)/\Triple Try.prog 45 (s45 r (seekP r).1)/\fits r/\True /\ ∀ (i90:Env),True)/\((!!decide ((seekP r).2=0))->(((!!decide ((seekP r).2=0))->(!!decide ((seekP r).2=0))=true)/\True)/\True)/\(((!decide ((seekP r).2=0))->True)/\((!decide ((seekP r).2=0))=false->(!!decide ((seekP r).2=0))=true))/\True) (st':=ASt.mk [(1,iv f),(3,.ptr 0 []),(11,iv (seekP r).1),(112,bv (bif !decide ((seekP r).2=0) then true else !isFound r (seekP r).1))] [(0,.cells 25 (cRun r))] 736) ⟨tv,tv,tv,(fun h85=>⟨⟨tv,tv⟩,tv⟩),(fun h86=>⟨⟨tv,tv⟩,tv⟩),(fun h87=>⟨⟨tv,(fun h88=>h87),(fun h89=>h87),tv⟩,⟨rfl,rfl,tv⟩,(t45 (r) (seekP r).1),hp,tv,(fun i90=>tv)⟩),(fun h91=>⟨⟨(fun h92=>h91),tv⟩,tv⟩),⟨(fun h93=>tv),(fun h94=>(o19 hp h21 h50 h75 h94))⟩,tv⟩ ?_
    refine swp_cond (bif !decide ((seekP r).2=0) then true else !isFound r (seekP r).1) (by kernel_rfl) (fun h=>by cases (h.symm.trans (o20 hp h21 h50 h75))) (fun _ => ?_)
    refine swp_skip (swp_seq ?_)
    refine sC (cs:=[(2,CallSpec.eq (s55 r (seekP r).1) [true,true])]) (kt:=[1,3,11,13,14]) (kh:=[0]) (q:=True/\True/\((zE (AV.agg (cRun r))/\zE (iv (seekP r).1)/\True)/\Triple Try.prog 55 (s55 r (seekP r).1)/\(fits r/\okRun r=true/\isOne r=true/\(0<=(seekP r).1/\(seekP r).1 < (↑(r.found.length):Int))/\2<=(whereS r (seekP r).1).length)/\True /\ ∀ (i95:Env),True)/\tn 5) (st':=ASt.mk [(1,iv f),(3,.ptr 0 []),(11,iv (seekP r).1),(13,iv (leavesV r (seekP r).1.toNat)),(14,bv true)] [(0,.cells 25 (cRun r))] 800) ⟨tv,tv,⟨⟨rfl,rfl,tv⟩,(t55 (r) (seekP r).1),⟨hp,(o21 hp h21 h50 h75),(o22 hp h21 h50 h75),⟨(o23 hp h21 h50 h75),(o24 hp h21 h50 h75)⟩,(o25 hp h21 h50 h75)⟩,tv,(fun i95=>tv)⟩,tp 5⟩ ?_
    refine swp_seq ?_
    refine sC (cs:=[(2,CallSpec.eq (s55 r f) [true,true])]) (kt:=[1,11,13,14,15,16]) (kh:=[]) (q:=True/\True/\((zE (AV.agg (cRun r))/\iv f=iv f/\True)/\Triple Try.prog 55 (s55 r f)/\(fits r/\okRun r=true/\isOne r=true/\(0<=f/\f < (↑(r.found.length):Int))/\2<=(whereS r f).length)/\True /\ ∀ (i96:Env),True)/\tn 5) (st':=ASt.mk [(1,iv f),(11,iv (seekP r).1),(13,iv (leavesV r (seekP r).1.toNat)),(14,bv true),(15,iv (leavesV r f.toNat)),(16,bv true)] [] 864) ⟨tv,tv,⟨⟨rfl,rfl,tv⟩,(t55 (r) (f)),⟨hp,(o26 hp h21 h50 h75),(o27 hp h21 h50 h75),⟨(o28 hp h21 h50 h75),(o29 hp h21 h50 h75)⟩,(o30 hp h21 h50 h75)⟩,tv,(fun i96=>tv)⟩,tp 5⟩ ?_
    refine swp_seq ?_
    refine sC (cs:=[(20,CallSpec.eq s19 [])]) (kt:=[6]) (kh:=[]) (q:=True/\True/\(true=true->(True/\True)/\True)/\((true=true->true=true)/\(true=false->True))/\True/\(true=true->(True/\True)/\True)/\(true=true->(True/\True)/\True)/\(true=true->((true=true->true=true)/\(true=true->true=true)/\True)/\True)/\((true=true->true=true)/\(true=false->True))/\True/\(decide (leavesV r (seekP r).1.toNat<=leavesV r f.toNat)=true->(True/\True)/\True)/\(decide (leavesV r (seekP r).1.toNat<=leavesV r f.toNat)=true->(True/\True)/\True)/\(decide (leavesV r (seekP r).1.toNat<=leavesV r f.toNat)=true->((decide (leavesV r (seekP r).1.toNat<=leavesV r f.toNat)=true->decide (leavesV r (seekP r).1.toNat<=leavesV r f.toNat)=true)/\(decide (leavesV r (seekP r).1.toNat<=leavesV r f.toNat)=true->decide (leavesV r (seekP r).1.toNat<=leavesV r f.toNat)=true)/\True)/\True)/\(decide (leavesV r (seekP r).1.toNat<=leavesV r f.toNat)=true->((decide (leavesV r (seekP r).1.toNat<=leavesV r f.toNat)=true->decide (leavesV r (seekP r).1.toNat<=leavesV r f.toNat)=true)/\True)/\True)/\((decide (leavesV r (seekP r).1.toNat<=leavesV r f.toNat) && !decide (leavesV r (seekP r).1.toNat < leavesV r f.toNat))->(True/\True)/\True)/\((decide (leavesV r (seekP r).1.toNat<=leavesV r f.toNat) && !decide (leavesV r (seekP r).1.toNat < leavesV r f.toNat))->(True/\True)/\True)/\((decide (leavesV r (seekP r).1.toNat<=leavesV r f.toNat) && !decide (leavesV r (seekP r).1.toNat < leavesV r f.toNat))->(((decide (leavesV r (seekP r).1.toNat<=leavesV r f.toNat) && !decide (leavesV r (seekP r).1.toNat < leavesV r f.toNat))->(decide (leavesV r (seekP r).1.toNat<=leavesV r f.toNat) && !decide (leavesV r (seekP r).1.toNat < leavesV r f.toNat))=true)/\((decide (leavesV r (seekP r).1.toNat<=leavesV r f.toNat) && !decide (leavesV r (seekP r).1.toNat < leavesV r f.toNat))->(decide (leavesV r (seekP r).1.toNat<=leavesV r f.toNat) && !decide (leavesV r (seekP r).1.toNat < leavesV r f.toNat))=true)/\True)/\True)/\(decide (leavesV r (seekP r).1.toNat<=leavesV r f.toNat)=true->((decide (leavesV r (seekP r).1.toNat<=leavesV r f.toNat)=true->decide (leavesV r (seekP r).1.toNat<=leavesV r f.toNat)=true)/\True)/\(decide (leavesV r (seekP r).1.toNat < leavesV r f.toNat)=true->True)/\(decide (leavesV r (seekP r).1.toNat < leavesV r f.toNat)=false->(decide (leavesV r (seekP r).1.toNat<=leavesV r f.toNat) && !decide (leavesV r (seekP r).1.toNat < leavesV r f.toNat))=true))/\((decide (leavesV r (seekP r).1.toNat<=leavesV r f.toNat)=true->decide (leavesV r (seekP r).1.toNat<=leavesV r f.toNat)=true)/\(decide (leavesV r (seekP r).1.toNat<=leavesV r f.toNat)=false->True))/\True/\((bif decide (leavesV r (seekP r).1.toNat<=leavesV r f.toNat) then bif decide (leavesV r (seekP r).1.toNat < leavesV r f.toNat) then true else decide ((seekP r).1<=f) else false)=true->(True/\True)/\True/\Triple Try.prog 19 s19/\True/\True /\ ∀ (i126:Env),True)/\(((bif decide (leavesV r (seekP r).1.toNat<=leavesV r f.toNat) then bif decide (leavesV r (seekP r).1.toNat < leavesV r f.toNat) then true else decide ((seekP r).1<=f) else false)=true->(bif decide (leavesV r (seekP r).1.toNat<=leavesV r f.toNat) then bif decide (leavesV r (seekP r).1.toNat < leavesV r f.toNat) then true else decide ((seekP r).1<=f) else false)=true)/\((bif decide (leavesV r (seekP r).1.toNat<=leavesV r f.toNat) then bif decide (leavesV r (seekP r).1.toNat < leavesV r f.toNat) then true else decide ((seekP r).1<=f) else false)=false->True))/\True/\True) (st':=ASt.mk [(6,bv (bif bif decide (leavesV r (seekP r).1.toNat<=leavesV r f.toNat) then bif decide (leavesV r (seekP r).1.toNat < leavesV r f.toNat) then true else decide ((seekP r).1<=f) else false then true else false))] [] 1048) ⟨tv,tv,(fun h97=>⟨⟨tv,tv⟩,tv⟩),⟨(fun h98=>rfl),(fun h99=>tv)⟩,tv,(fun h100=>⟨⟨tv,tv⟩,tv⟩),(fun h101=>⟨⟨tv,tv⟩,tv⟩),(fun h102=>⟨⟨(fun h103=>rfl),(fun h104=>rfl),tv⟩,tv⟩),⟨(fun h105=>rfl),(fun h106=>tv)⟩,tv,(fun h107=>⟨⟨tv,tv⟩,tv⟩),(fun h108=>⟨⟨tv,tv⟩,tv⟩),(fun h109=>⟨⟨(fun h110=>h109),(fun h111=>h109),tv⟩,tv⟩),(fun h112=>⟨⟨(fun h113=>h112),tv⟩,tv⟩),(fun h114=>⟨⟨tv,tv⟩,tv⟩),(fun h115=>⟨⟨tv,tv⟩,tv⟩),(fun h116=>⟨⟨(fun h117=>h116),(fun h118=>h116),tv⟩,tv⟩),(fun h119=>⟨⟨(fun h120=>h119),tv⟩,(fun h121=>tv),(fun h122=>(o31 hp h21 h50 h75 h119 h122))⟩),⟨(fun h123=>h123),(fun h124=>tv)⟩,tv,(fun h125=>⟨⟨tv,tv⟩,tv,(t19),tv,tv,(fun i126=>tv)⟩),⟨(fun h127=>h127),(fun h128=>tv)⟩,tv,tv⟩ ?_
    refine swp_ret ?_
    exact rQ [] ((True/\True)/\(zN (bv (bif bif decide (leavesV r (seekP r).1.toNat<=leavesV r f.toNat) then bif decide (leavesV r (seekP r).1.toNat < leavesV r f.toNat) then true else decide ((seekP r).1<=f) else false then true else false)) (bv true))/\T3) ⟨⟨tv,tv⟩,⟨(congrArg bv (o32 hp h21 h50 h75)),rfl⟩,rfl,rfl,rfl⟩
  ·refine swp_seq ?_
   refine sC (cs:=[(2,CallSpec.eq (s51 (whereS r f) m) [true,true])]) (kt:=[1,3,7,87]) (kh:=[0]) (q:=True/\True/\((zE (aInts (whereS r f))/\iv m=iv m/\True)/\Triple Try.prog 51 (s51 (whereS r f) m)/\(whereS r f).length<=1125899906842624/\True /\ ∀ (i129:Env),True)/\True) (st':=ASt.mk [(1,iv f),(3,.ptr 0 []),(7,aInts (whereS r f)),(87,bv (isIn (whereS r f) m))] [(0,.cells 25 (cRun r))] 416) ⟨tv,tv,⟨⟨rfl,rfl,tv⟩,(t51 (whereS r f) (m)),(o33 hp h21 h50),tv,(fun i129=>tv)⟩,tv⟩ ?_
   refine swp_cond (isIn (whereS r f) m) (by kernel_rfl) (fun h=>by cases (h.symm.trans (o34 hp h21 h50))) (fun _ => ?_)
   refine swp_skip (swp_seq ?_)
   refine sC (cs:=[(1,CallSpec.eq (s54 r) [true])]) (kt:=[1,3,7,11,12]) (kh:=[0]) (q:=True/\((zE (AV.agg (cRun r))/\True)/\Triple Try.prog 54 (s54 r)/\fits r/\True /\ ∀ (i130:Env),True)/\tn 5) (st':=ASt.mk [(1,iv f),(3,.ptr 0 []),(7,aInts (whereS r f)),(11,iv (seekP r).1),(12,iv (seekP r).2)] [(0,.cells 25 (cRun r))] 472) ⟨tv,⟨⟨rfl,tv⟩,(t54 (r)),hp,tv,(fun i130=>tv)⟩,tp 5⟩ ?_
   refine swp_seq (swp_seq ?_)
   refine sQ (kt:=[1,3,11,12,95]) (kh:=[0]) (q:=tn 3) (st':=ASt.mk [(1,iv f),(3,.ptr 0 []),(11,iv (seekP r).1),(12,iv (seekP r).2),(95,bv (decide ((↑((whereS r f).length):Int) < 2)))] [(0,.cells 25 (cRun r))] 496) (tp 3) ?_
   refine swp_cond (decide ((↑((whereS r f).length):Int) < 2)) (by kernel_rfl) (fun h131 => ?_) (fun h131 => ?_)
   ·refine swp_seq ?_
    refine sC (cs:=[(7,CallSpec.eq s19 [])]) (kt:=[6]) (kh:=[]) (q:=True/\True/\True/\((!decide ((seekP r).2=0))->(True/\True)/\True)/\((!decide ((seekP r).2=0))->(((!decide ((seekP r).2=0))->(!decide ((seekP r).2=0))=true)/\True/\True)/\True)/\((decide ((seekP r).2=0)=true->True)/\(decide ((seekP r).2=0)=false->(!decide ((seekP r).2=0))=true))/\True/\((bif decide ((seekP r).2=0) then true else decide ((seekP r).2=3))=true->(True/\True)/\True/\Triple Try.prog 19 s19/\True/\True /\ ∀ (i138:Env),True)/\(((bif decide ((seekP r).2=0) then true else decide ((seekP r).2=3))=true->(bif decide ((seekP r).2=0) then true else decide ((seekP r).2=3))=true)/\((bif decide ((seekP r).2=0) then true else decide ((seekP r).2=3))=false->True))/\True/\True) (st':=ASt.mk [(6,bv (bif bif decide ((seekP r).2=0) then true else decide ((seekP r).2=3) then true else false))] [] 576) ⟨tv,tv,tv,(fun h132=>⟨⟨tv,tv⟩,tv⟩),(fun h133=>⟨⟨(fun h134=>h133),tv,tv⟩,tv⟩),⟨(fun h135=>tv),(fun h136=>(o35 hp h21 h50 h131 h136))⟩,tv,(fun h137=>⟨⟨tv,tv⟩,tv,(t19),tv,tv,(fun i138=>tv)⟩),⟨(fun h139=>h139),(fun h140=>tv)⟩,tv,tv⟩ ?_
    refine swp_ret ?_
    exact rQ [] ((True/\True)/\(zN (bv (bif bif decide ((seekP r).2=0) then true else decide ((seekP r).2=3) then true else false)) (bv true))/\T3) ⟨⟨tv,tv⟩,⟨(congrArg bv (o36 hp h21 h50 h131)),rfl⟩,rfl,rfl,rfl⟩
   ·refine swp_skip (swp_seq (swp_seq ?_))
    refine sC (cs:=[(5,CallSpec.eq (s45 r (seekP r).1) [true,true])]) (kt:=[1,3,11,112]) (kh:=[0]) (q:=True/\True/\True/\((!!decide ((seekP r).2=0))->(True/\True)/\True)/\((!!decide ((seekP r).2=0))->(True/\True)/\True)/\((!!decide ((seekP r).2=0))->(True/\((!!decide ((seekP r).2=0))->(!!decide ((seekP r).2=0))=true)/\((!!decide ((seekP r).2=0))->(!!decide ((seekP r).2=0))=true)/\True)/\(zE (AV.agg (cRun r))/\zE (iv (seekP r).1)/\True)/\Triple Try.prog 45 (s45 r (seekP r).1)/\fits r/\True /\ ∀ (i146:Env),True)/\((!!decide ((seekP r).2=0))->(((!!decide ((seekP r).2=0))->(!!decide ((seekP r).2=0))=true)/\True)/\True)/\(((!decide ((seekP r).2=0))->True)/\((!decide ((seekP r).2=0))=false->(!!decide ((seekP r).2=0))=true))/\True) (st':=ASt.mk [(1,iv f),(3,.ptr 0 []),(11,iv (seekP r).1),(112,bv (bif !decide ((seekP r).2=0) then true else !isFound r (seekP r).1))] [(0,.cells 25 (cRun r))] 560) ⟨tv,tv,tv,(fun h141=>⟨⟨tv,tv⟩,tv⟩),(fun h142=>⟨⟨tv,tv⟩,tv⟩),(fun h143=>⟨⟨tv,(fun h144=>h143),(fun h145=>h143),tv⟩,⟨rfl,rfl,tv⟩,(t45 (r) (seekP r).1),hp,tv,(fun i146=>tv)⟩),(fun h147=>⟨⟨(fun h148=>h147),tv⟩,tv⟩),⟨(fun h149=>tv),(fun h150=>(o37 hp h21 h50 h131 h150))⟩,tv⟩ ?_
    refine swp_cond (bif !decide ((seekP r).2=0) then true else !isFound r (seekP r).1) (by kernel_rfl) (fun h=>by cases (h.symm.trans (o38 hp h21 h50 h131))) (fun _ => ?_)
    refine swp_skip (swp_seq ?_)
    refine sC (cs:=[(2,CallSpec.eq (s55 r (seekP r).1) [true,true])]) (kt:=[1,3,11,13,14]) (kh:=[0]) (q:=True/\True/\((zE (AV.agg (cRun r))/\zE (iv (seekP r).1)/\True)/\Triple Try.prog 55 (s55 r (seekP r).1)/\(fits r/\okRun r=true/\isOne r=true/\(0<=(seekP r).1/\(seekP r).1 < (↑(r.found.length):Int))/\2<=(whereS r (seekP r).1).length)/\True /\ ∀ (i151:Env),True)/\tn 5) (st':=ASt.mk [(1,iv f),(3,.ptr 0 []),(11,iv (seekP r).1),(13,iv (leavesV r (seekP r).1.toNat)),(14,bv true)] [(0,.cells 25 (cRun r))] 624) ⟨tv,tv,⟨⟨rfl,rfl,tv⟩,(t55 (r) (seekP r).1),⟨hp,(o39 hp h21 h50 h131),(o40 hp h21 h50 h131),⟨(o41 hp h21 h50 h131),(o42 hp h21 h50 h131)⟩,(o43 hp h21 h50 h131)⟩,tv,(fun i151=>tv)⟩,tp 5⟩ ?_
    refine swp_seq ?_
    refine sC (cs:=[(2,CallSpec.eq (s55 r f) [true,true])]) (kt:=[1,11,13,14,15,16]) (kh:=[]) (q:=True/\True/\((zE (AV.agg (cRun r))/\iv f=iv f/\True)/\Triple Try.prog 55 (s55 r f)/\(fits r/\okRun r=true/\isOne r=true/\(0<=f/\f < (↑(r.found.length):Int))/\2<=(whereS r f).length)/\True /\ ∀ (i152:Env),True)/\tn 5) (st':=ASt.mk [(1,iv f),(11,iv (seekP r).1),(13,iv (leavesV r (seekP r).1.toNat)),(14,bv true),(15,iv (leavesV r f.toNat)),(16,bv true)] [] 688) ⟨tv,tv,⟨⟨rfl,rfl,tv⟩,(t55 (r) (f)),⟨hp,(o44 hp h21 h50 h131),(o45 hp h21 h50 h131),⟨(o46 hp h21 h50 h131),(o47 hp h21 h50 h131)⟩,(o48 hp h21 h50 h131)⟩,tv,(fun i152=>tv)⟩,tp 5⟩ ?_
    refine swp_seq ?_
    refine sC (cs:=[(20,CallSpec.eq s19 [])]) (kt:=[6]) (kh:=[]) (q:=True/\True/\(true=true->(True/\True)/\True)/\((true=true->true=true)/\(true=false->True))/\True/\(true=true->(True/\True)/\True)/\(true=true->(True/\True)/\True)/\(true=true->((true=true->true=true)/\(true=true->true=true)/\True)/\True)/\((true=true->true=true)/\(true=false->True))/\True/\(decide (leavesV r (seekP r).1.toNat<=leavesV r f.toNat)=true->(True/\True)/\True)/\(decide (leavesV r (seekP r).1.toNat<=leavesV r f.toNat)=true->(True/\True)/\True)/\(decide (leavesV r (seekP r).1.toNat<=leavesV r f.toNat)=true->((decide (leavesV r (seekP r).1.toNat<=leavesV r f.toNat)=true->decide (leavesV r (seekP r).1.toNat<=leavesV r f.toNat)=true)/\(decide (leavesV r (seekP r).1.toNat<=leavesV r f.toNat)=true->decide (leavesV r (seekP r).1.toNat<=leavesV r f.toNat)=true)/\True)/\True)/\(decide (leavesV r (seekP r).1.toNat<=leavesV r f.toNat)=true->((decide (leavesV r (seekP r).1.toNat<=leavesV r f.toNat)=true->decide (leavesV r (seekP r).1.toNat<=leavesV r f.toNat)=true)/\True)/\True)/\((decide (leavesV r (seekP r).1.toNat<=leavesV r f.toNat) && !decide (leavesV r (seekP r).1.toNat < leavesV r f.toNat))->(True/\True)/\True)/\((decide (leavesV r (seekP r).1.toNat<=leavesV r f.toNat) && !decide (leavesV r (seekP r).1.toNat < leavesV r f.toNat))->(True/\True)/\True)/\((decide (leavesV r (seekP r).1.toNat<=leavesV r f.toNat) && !decide (leavesV r (seekP r).1.toNat < leavesV r f.toNat))->(((decide (leavesV r (seekP r).1.toNat<=leavesV r f.toNat) && !decide (leavesV r (seekP r).1.toNat < leavesV r f.toNat))->(decide (leavesV r (seekP r).1.toNat<=leavesV r f.toNat) && !decide (leavesV r (seekP r).1.toNat < leavesV r f.toNat))=true)/\((decide (leavesV r (seekP r).1.toNat<=leavesV r f.toNat) && !decide (leavesV r (seekP r).1.toNat < leavesV r f.toNat))->(decide (leavesV r (seekP r).1.toNat<=leavesV r f.toNat) && !decide (leavesV r (seekP r).1.toNat < leavesV r f.toNat))=true)/\True)/\True)/\(decide (leavesV r (seekP r).1.toNat<=leavesV r f.toNat)=true->((decide (leavesV r (seekP r).1.toNat<=leavesV r f.toNat)=true->decide (leavesV r (seekP r).1.toNat<=leavesV r f.toNat)=true)/\True)/\(decide (leavesV r (seekP r).1.toNat < leavesV r f.toNat)=true->True)/\(decide (leavesV r (seekP r).1.toNat < leavesV r f.toNat)=false->(decide (leavesV r (seekP r).1.toNat<=leavesV r f.toNat) && !decide (leavesV r (seekP r).1.toNat < leavesV r f.toNat))=true))/\((decide (leavesV r (seekP r).1.toNat<=leavesV r f.toNat)=true->decide (leavesV r (seekP r).1.toNat<=leavesV r f.toNat)=true)/\(decide (leavesV r (seekP r).1.toNat<=leavesV r f.toNat)=false->True))/\True/\((bif decide (leavesV r (seekP r).1.toNat<=leavesV r f.toNat) then bif decide (leavesV r (seekP r).1.toNat < leavesV r f.toNat) then true else decide ((seekP r).1<=f) else false)=true->(True/\True)/\True/\Triple Try.prog 19 s19/\True/\True /\ ∀ (i182:Env),True)/\(((bif decide (leavesV r (seekP r).1.toNat<=leavesV r f.toNat) then bif decide (leavesV r (seekP r).1.toNat < leavesV r f.toNat) then true else decide ((seekP r).1<=f) else false)=true->(bif decide (leavesV r (seekP r).1.toNat<=leavesV r f.toNat) then bif decide (leavesV r (seekP r).1.toNat < leavesV r f.toNat) then true else decide ((seekP r).1<=f) else false)=true)/\((bif decide (leavesV r (seekP r).1.toNat<=leavesV r f.toNat) then bif decide (leavesV r (seekP r).1.toNat < leavesV r f.toNat) then true else decide ((seekP r).1<=f) else false)=false->True))/\True/\True) (st':=ASt.mk [(6,bv (bif bif decide (leavesV r (seekP r).1.toNat<=leavesV r f.toNat) then bif decide (leavesV r (seekP r).1.toNat < leavesV r f.toNat) then true else decide ((seekP r).1<=f) else false then true else false))] [] 872) ⟨tv,tv,(fun h153=>⟨⟨tv,tv⟩,tv⟩),⟨(fun h154=>rfl),(fun h155=>tv)⟩,tv,(fun h156=>⟨⟨tv,tv⟩,tv⟩),(fun h157=>⟨⟨tv,tv⟩,tv⟩),(fun h158=>⟨⟨(fun h159=>rfl),(fun h160=>rfl),tv⟩,tv⟩),⟨(fun h161=>rfl),(fun h162=>tv)⟩,tv,(fun h163=>⟨⟨tv,tv⟩,tv⟩),(fun h164=>⟨⟨tv,tv⟩,tv⟩),(fun h165=>⟨⟨(fun h166=>h165),(fun h167=>h165),tv⟩,tv⟩),(fun h168=>⟨⟨(fun h169=>h168),tv⟩,tv⟩),(fun h170=>⟨⟨tv,tv⟩,tv⟩),(fun h171=>⟨⟨tv,tv⟩,tv⟩),(fun h172=>⟨⟨(fun h173=>h172),(fun h174=>h172),tv⟩,tv⟩),(fun h175=>⟨⟨(fun h176=>h175),tv⟩,(fun h177=>tv),(fun h178=>(o49 hp h21 h50 h131 h175 h178))⟩),⟨(fun h179=>h179),(fun h180=>tv)⟩,tv,(fun h181=>⟨⟨tv,tv⟩,tv,(t19),tv,tv,(fun i182=>tv)⟩),⟨(fun h183=>h183),(fun h184=>tv)⟩,tv,tv⟩ ?_
    refine swp_ret ?_
    exact rQ [] ((True/\True)/\(zN (bv (bif bif decide (leavesV r (seekP r).1.toNat<=leavesV r f.toNat) then bif decide (leavesV r (seekP r).1.toNat < leavesV r f.toNat) then true else decide ((seekP r).1<=f) else false then true else false)) (bv true))/\T3) ⟨⟨tv,tv⟩,⟨(congrArg bv (o50 hp h21 h50 h131)),rfl⟩,rfl,rfl,rfl⟩
theorem h13p {r:Run} {f m:Int} (h:(bif bif !known6 r then true else !isFound r f then true else !isMachine r m)=false):∃ g:Nat,f=g/\f.toNat=g/\g < r.found.length/\known6 r=true/\okRun r=true/\One r/\isFound r f=true/\isMachine r m=true:=by
 obtain ⟨h1,h2,h3⟩:=or3 h
 obtain ⟨a1,a2,a3⟩:=known_ok h1
 have hf:isFound r f=true:=by simpa using h2
 have:=isFound_iff.1 hf
 exact ⟨f.toNat,by omega,rfl,by omega,a1,a2,a3,hf,by simpa using h3⟩
theorem seek_ok {r:Run} (hk:okRun r=true) (h:One r):(seekP r).2=0 ∨ (seekP r).2=3:=by
 rcases seek_val hk h with ⟨e,_⟩ | ⟨c,e,_⟩ <;> rw [e] <;> simp
theorem seek_two {r:Run} (hk:okRun r=true) (h:One r) {g:Nat} (hg:g < r.found.length) (hl:2<=(whereS r (g:Int)).length):∃ c0:Nat,(seekP r).1=c0/\(seekP r).2=0/\c0 < r.found.length/\2<=(whereS r (c0:Int)).length/\leavesV r c0<=leavesV r g/\(leavesV r c0 < leavesV r g ∨ c0<=g):=by
 rcases seek_val hk h with ⟨_,h2⟩ | ⟨c0,e,h2,h3,h4⟩
 ·have:=h2 g hg; omega
 ·rw [e]; exact ⟨c0,rfl,rfl,h2,h3,(h4 g hg hl).1,(h4 g hg hl).2⟩
theorem t13 (r:Run) (f m:Int):Triple Try.prog 13 (s13 r f m):=by
 apply w13
 all_goals (intro hfit hp)
 case o0=>cases h:known6 r <;> simp_all
 case o1=>cases h:known6 r <;> cases h':isFound r f <;> simp_all
 all_goals (obtain ⟨g,e1,e2,hg,hkn,hk,hO,hi,hm⟩:=h13p hp; have hz:=one_open hO hi; have W:=where_facts hO hg; rw [← e1] at W; have hmb:=hO.ok.machines; have hfb:=hO.ok.found; have hmm:=machIs_ok hm; have hbf:=isFound_iff.1 hi)
 case o2=>intro _; rw [hz]; rfl
 case o3=>intro _; exact ⟨by omega,by omega⟩
 case o4=>intro _; omega
 case o5=>intro h; rw [hz,decide_eq_false (p:=((whereS r f).length:Int)=0) (by omega)] at h ⊢; simp at h ⊢
 case o6=>rw [hz,decide_eq_false (p:=((whereS r f).length:Int)=0) (by omega),W.2.2]; rfl
 case o7=>omega
 case o8=>omega
 case o9=>exact (hfit.2.2.2 f.toNat).2
 all_goals (intro hin)
 case o10=>exact small_known hkn hfit
 case o11=>omega
 case o12=>omega
 case o13=>exact fits_setFrm hfit (by omega) (by simp)
 case o14=>intro _; omega
 case o15=>intro h; revert h; cases (bif !decide (openE (fromR r f m) true=0) then !decide (openE (fromR r f m) true=3) else false) <;> simp
 case o16 =>
  rw [e2] at hin
  unfold fromR; rw [e2]
  have T:=truth_from hk hO hg hm (isIn_mem.1 hin)
  rw [← e1] at T
  rcases T with ⟨a,b⟩ | ⟨a,b⟩ <;> rw [a,b] <;> rfl
 case o33=>omega
 case o34=>rw [e1]; exact where_frm hO hg (by rw [e2] at hin; exact hin)
 all_goals (intro hl; simp only [decide_eq_true_eq,decide_eq_false_iff_not] at hl)
 case o17 | o35=>intro h; simp_all
 case o18 | o36=>rcases seek_ok hk hO with a | a <;> rw [a] <;> rfl
 all_goals (obtain ⟨c0,d1,d2,d3,d4,d5,d6⟩:=seek_two hk hO hg (by rw [← e1]; omega))
 case o19 | o37=>intro _; rw [d2]; rfl
 case o20 | o38=>rw [d1,d2,isFound_nat d3]; rfl
 case o21 | o26 | o39 | o44=>exact hk
 case o22 | o27 | o40 | o45=>simp only [known6,Bool.and_eq_true] at hkn; exact hkn.2
 case o23 | o41=>omega
 case o24 | o42=>omega
 case o25 | o43=>rw [d1]; exact d4
 case o28 | o29 | o46 | o47=>omega
 case o30 | o48=>omega
 case o31 | o49=>intro a b; simp_all
 case o32 | o50 =>
  rw [d1,e2,Int.toNat_natCast,decide_eq_true d5]
  by_cases c:leavesV r c0 < leavesV r g
  ·rw [decide_eq_true c]; rfl
  ·rw [decide_eq_false c,decide_eq_true (p:=(c0:Int)<=f) (by omega)]; rfl
end Go.Ab
namespace Go.Ab
open Go Go.RowKit
def Dec (P:Program) (t:TypeId) {α:Type} (c:α->List AV) (ok:α->Prop):Prop :=
 ∀ {H:Type} (enc:TypeId × Value->H) (w:World) (E:Env) (fuel:Nat) (cs:List Value) (d:DataW H) (ps:List MemPlace),
  (∀ b,E.M b=w.heap[b]?)->DataW.trod enc P w 0 (fun _=>true) true fuel t cs=some (d,ps)->(∀ n ∈ d.weights P t,n<=reachBytes) -> ∃ a,ok a /\ ∀ o,RelL E o (c a) cs
theorem mcell_of {E:Env} {w:World} (h:∀ b,E.M b=w.heap[b]?) {a:Addr} {v:Value} (hc:w.cell? a=some v):a.spot=none/\mcell E.M a.block a.off=some v:=by
 refine ⟨World.cell?_spot hc,?_⟩
 have hs:=World.cell?_spot hc
 unfold World.cell? at hc
 unfold mcell
 rw [h]
 split at hc
 ·rename_i c t fr e
  rw [hs] at hc
  rw [e]
  simpa using hc
 ·cases hc
theorem lit_wf {n:Int} (h:(Lit.int .i64 n).wf=true) : -9223372036854775808<=n/\n<=9223372036854775807:=by
 simpa [Lit.wf,IntKind.min,IntKind.max,IntKind.signed,IntKind.bits] using h
theorem dec_int {P:Program} {t:TypeId} (ht:P.underlying t=some (.int .i64)):Dec P t (fun n=>[iv n]) (fun n => -9223372036854775808<=n/\n<=9223372036854775807):=by
 intro H enc w E fuel cs d ps _ h _
 obtain ⟨n,rfl,_,hw⟩:=DataW.trod_int ht h
 exact ⟨n,lit_wf hw,fun o => .cons (.lit _) rfl .nil⟩
theorem weightsAll_mem {H:Type} {P:Program} {e:TypeId}:∀ {l:List (DataW H)} {d:DataW H},d ∈ l -> ∀ n ∈ d.weights P e,n ∈ DataW.weightsAll P e l:=by
 intro l
 induction l with
 | nil=>intro d h; cases h
 | cons x l ih =>
  intro d h n hn
  rw [DataW.weightsAll,List.mem_append]
  rcases List.mem_cons.1 h with rfl | h
  ·exact .inl hn
  ·exact .inr (ih h n hn)
theorem dec_slice {P:Program} {t e:TypeId} {α:Type} [Inhabited α] {c:α->List AV} {ok:α->Prop} (ht:P.underlying t=some (.slice e)) {sz:Nat} (hsz:P.cellsOf e=sz) (hpos:0 < sz) (hby:0 < P.bytesOf e) (he:Dec P e c ok) :
  Dec P t (fun l:List α=>[.sl sz l.length (fun i=>c (l.getD i default))]) (fun l=>l.length<=140737488355328 /\ ∀ a,a ∈ l->ok a):=by
 intro H enc w E fuel cs d ps hE h hw
 rcases Deep.open_slice ht h with ⟨rfl,hx⟩ | ⟨a,len,cap,m,n,D,Pl,rfl,hb,hl,hm,hmm,hx,hall⟩
 ·refine ⟨[],⟨Nat.zero_le _,fun a ha=>by cases ha⟩,fun o => ?_⟩
  exact .cons (.slN _ _) rfl .nil
 ·simp only [if_true] at hmm
  subst hmm
  rw [hsz] at hall
  obtain ⟨rfl,rfl⟩:=Prod.mk.inj hx
  have hwt:∀ i,i < len -> ∀ k ∈ (D i).weights P e,k<=reachBytes:=by
   intro i hi k hk
   refine hw k ?_
   rw [DataW.weights,ht]
   refine List.mem_cons_of_mem _ (List.mem_append_left _ (weightsAll_mem (d:=D i) ?_ k hk))
   exact List.mem_map.2 ⟨i,List.mem_range.2 hi,rfl⟩
  have hlen:len<=140737488355328:=by
   have h1:(((List.range len).map D).length + ((List.range (m - len)).map fun j=>D (len + j)).length) * P.bytesOf e<=reachBytes:=by
    refine hw _ ?_
    rw [DataW.weights,ht]
    exact List.mem_cons_self ..
   simp only [List.length_map,List.length_range] at h1
   have h2:len<=(len + (m - len)) * P.bytesOf e:=Nat.le_trans (Nat.le_add_right _ _) (Nat.le_mul_of_pos_right _ hby)
   have h3:=reachBytes_lt
   omega
  obtain ⟨g,hg⟩:=Deep.choose_lt (α:=List Value) (p:=fun i cs'=>w.cells? 0 (a.add (i * sz)) sz=some cs'/\DataW.trod enc P w 0 (fun _=>true) true n e cs'=some (D i,Pl i)) hall
  have hdec:∀ i,i < len -> ∃ x,ok x /\ ∀ o,RelL E o (c x) (g i):=fun i hi=>he enc w E n (g i) (D i) (Pl i) hE (hg i (by omega)).2 (hwt i hi)
  obtain ⟨A,hA⟩:=Deep.choose_lt (α:=α) (p:=fun i x=>ok x /\ ∀ o,RelL E o (c x) (g i)) hdec
  refine ⟨(List.range len).map A,⟨by simpa using hlen,fun x hx => ?_⟩,fun o => .cons ?_ rfl .nil⟩
  ·obtain ⟨i,hi,rfl⟩:=List.mem_map.1 hx
   exact (hA i (List.mem_range.1 hi)).1
  ·rw [List.length_map,List.length_range]
   have hcell:∀ i k,i < m->k < sz -> ∃ v,(g i)[k]? = some v/\w.cell? ((a.add (i * sz)).add k)=some v:=by
    intro i k hi hk
    obtain ⟨_,hl1,hl2⟩:=World.cells?_some (hg i hi).1
    have:=hl2 k hk
    obtain ⟨v,hv⟩:∃ v,(g i)[k]? = some v:=⟨_,List.getElem?_eq_getElem (by omega)⟩
    exact ⟨v,hv,by rw [this,hv]⟩
   by_cases h0:m=0
   ·subst h0
    obtain rfl:len=0:=by omega
    exact .slZ _ _ _
   ·obtain ⟨v,_,hv⟩:=hcell 0 0 (by omega) hpos
    have hsp:=(mcell_of hE hv).1
    obtain ⟨b,off,spot⟩:=a
    obtain rfl:spot=none:=by simpa [Addr.add] using hsp
    refine .slA sz len _ b off m g hl hm (fun i hi => ?_) (fun i k hi hk => ?_) (fun i hi => ?_)
    ·exact (World.cells?_some (hg i (by omega)).1).2.1
    ·obtain ⟨v,hv1,hv2⟩:=hcell i k (by omega) hk
     rw [hv1]
     have:=(mcell_of hE hv2).2
     rw [addr_add,addr_add] at this
     exact this
    ·have:((List.range len).map A).getD i default=A i:=by
      rw [List.getD_eq_getElem?_getD,List.getElem?_map,List.getElem?_range hi]; rfl
     rw [this]
     exact (hA i hi).2 false
def DecFs (P:Program) (off fin:Nat) (fs:List Field) {α:Type} (c:α->List AV) (ok:α->Prop):Prop :=
 ∀ {H:Type} (enc:TypeId × Value->H) (w:World) (E:Env) (n:Nat) (cs:List Value) (xs:List (DataW H × List MemPlace)),
  (∀ b,E.M b=w.heap[b]?)->cs.length=fin->xs.length=fs.length->(∀ (i:Nat) (f:Field),fs[i]? = some f->DataW.trod enc P w 0 (fun _=>true) true n f.type ((cs.drop f.offset).take (P.cellsOf f.type))=xs[i]?) →
  (∀ k ∈ DataW.weightsEach P (fs.map (·.type)) (xs.map (·.1)),k<=reachBytes) -> ∃ a,ok a /\ ∀ o,RelL E o (c a) (cs.drop off)
theorem decFs_nil {P:Program} {fin:Nat}:DecFs P fin fin [] (fun _:Unit=>[]) (fun _=>True):=by
 intro H enc w E n cs xs _ hl _ _ _
 refine ⟨(),trivial,fun o => ?_⟩
 rw [List.drop_of_length_le (by omega)]
 exact .nil
theorem decFs_cons {P:Program} {off mid fin:Nat} {f:Field} {fs:List Field} {α β:Type} {c1:α->List AV} {ok1:α->Prop} {c2:β->List AV} {ok2:β->Prop} {t:TypeId} (hft:f.type=t) (ho:f.offset=off) (hm:off + P.cellsOf t=mid)
  (h1:Dec P t c1 ok1) (h2:DecFs P mid fin fs c2 ok2):DecFs P off fin (f :: fs) (fun p:α × β=>c1 p.1 ++ c2 p.2) (fun p=>ok1 p.1/\ok2 p.2):=by
 intro H enc w E n cs xs hE hl hx hall hw
 subst hft; subst ho; subst hm
 cases xs with
 | nil=>simp at hx
 | cons x xs =>
  have h0:=hall 0 f rfl
  simp only [List.getElem?_cons_zero] at h0
  obtain ⟨a,ha,hra⟩:=h1 enc w E n _ x.1 x.2 hE h0 (fun k hk=>hw k (by
   simp only [List.map_cons,DataW.weightsEach]
   exact List.mem_append_left _ hk))
  obtain ⟨b,hb,hrb⟩:=h2 enc w E n cs xs hE hl (by simpa using hx) (fun i g hg=>by
   have:=hall (i + 1) g (by simpa using hg)
   simpa using this) (fun k hk=>hw k (by
   simp only [List.map_cons,DataW.weightsEach]
   exact List.mem_append_right _ hk))
  refine ⟨(a,b),⟨ha,hb⟩,fun o => ?_⟩
  have:=(hra o).append (hrb o)
  rw [← List.drop_drop,List.take_append_drop] at this
  exact this
theorem dec_struct {P:Program} {t:TypeId} {fs:Array Field} {sz:Nat} {α:Type} {c:α->List AV} {ok:α->Prop} (ht:P.underlying t=some (.struct fs)) (hsz:P.cellsOf t=sz) (h:DecFs P 0 sz fs.toList c ok):Dec P t c ok:=by
 intro H enc w E fuel cs d ps hE hd hw
 obtain ⟨xs,n,_,hx,hl,hxl,hall⟩:=DataW.trod_struct ht hd
 obtain ⟨rfl,rfl⟩:=Prod.mk.inj hx
 obtain ⟨a,ha,hr⟩:=h enc w E n cs xs hE (by omega) (by simpa using hxl) (fun i f hf=>hall i f (by simpa using hf)) (fun k hk=>hw k (by rw [DataW.weights,ht]; exact hk))
 exact ⟨a,ha,fun o=>by simpa using hr o⟩
theorem Dec.map {P:Program} {t:TypeId} {α β:Type} {c:α->List AV} {ok:α->Prop} {c':β->List AV} {ok':β->Prop} (h:Dec P t c ok) (g:α->β) (hc:∀ a,ok a->c' (g a)=c a) (hok:∀ a,ok a->ok' (g a)):Dec P t c' ok':=by
 intro H enc w E fuel cs d ps hE hd hw
 obtain ⟨a,ha,hr⟩:=h enc w E fuel cs d ps hE hd hw
 exact ⟨g a,hok a ha,fun o=>by rw [hc a ha]; exact hr o⟩
theorem Dec.arg {P:Program} {t:TypeId} {α:Type} {c:α->List AV} {ok:α->Prop} (h:Dec P t c ok) {H:Type} {enc:TypeId × Value->H} {w:World} {E:Env} (hE:∀ b,E.M b=w.heap[b]?) {v:Value} {d:DataW H} {ps:List MemPlace}
  (hd:DataW.Trod enc P w 0 (fun _=>true) true t v d ps) (hw:∀ n ∈ d.weights P t,n<=reachBytes):∃ a,ok a /\ ∀ o,RelL E o (c a) v.cells.toList:=by
 obtain ⟨fuel,hf⟩:=hd
 exact h enc w E fuel _ d ps hE hf hw
def envOf (w:World):Env:={ M:=fun b=>w.heap[b]?,blk:=fun _=>none,hdr:=fun _=>none,fns:=fun _ _=>False }
theorem heapOK_of (P:Program) (w:World):HeapOK (calleeCtx P (envOf w) w []) (envOf w) (Heap.of []) w where
 os:=rfl
 tape:=rfl
 output:=rfl
 size:=Nat.le_refl _
 pres:=fun _ _=>rfl
 mem:=fun _ _ h=>h
 le:=Env.le.refl _
 ext:=fun _ _ h => .inl h
 own:=fun id ob h=>by cases h
 sep:=fun i j k _ h=>absurd rfl h
theorem trodAll_below {H:Type} {enc:TypeId × Value->H} {P:Program} (hl:laidOutB P=true) {W W':World} (hb:Below W.heap.size W W'):∀ {ts:List TypeId} {vs:List Value} {ds:List (DataW H)} {ps:List MemPlace},
  (∀ t ∈ ts,P.readableRec t=true/\t < P.types.size)->DataW.TrodAll enc P W 0 (fun _=>true) true ts vs ds ps->(∀ x ∈ ps,x.block < W.heap.size) →
  DataW.TrodAll enc P W' 0 (fun b=>decide (b < W.heap.size)) true ts vs ds ps:=by
 intro ts
 induction ts with
 | nil =>
  intro vs ds ps _ h _
  obtain ⟨rfl,rfl,rfl⟩:=ChangeShapes.trodAll_nil h
  exact ChangeShapes.trodAll_mk0
 | cons t ts ih =>
  intro vs ds ps hr h hlt
  obtain ⟨v,vs',d,ds',p,q,rfl,rfl,rfl,hd,hrest⟩:=ChangeShapes.trodAll_cons h
  obtain ⟨h1,h2⟩:=hr t (List.mem_cons_self ..)
  exact ⟨p,q,Below.trod hl h1 h2 hd hb (fun x hx=>hlt x (List.mem_append_left _ hx)),ih (fun t ht=>hr t (List.mem_cons_of_mem _ ht)) hrest (fun x hx=>hlt x (List.mem_append_right _ hx)),rfl⟩
theorem law_contract {P:Program} (hl:laidOutB P=true) {f:FuncId} {fn:Func} {s:ChangeSpec} (hvars:s.vars = []) {tb:TypeId} (hres:fn.resultTypes = #[tb]) (htb:P.underlying tb=some .bool)
  (hread:∀ t ∈ fn.params.toList,P.readableRec t=true/\t < P.types.size)
  {H:Type} {enc:TypeId × Value->H} {W:World} {args:Array Value} {ds gs:List (DataW H)} {before:List MemPlace}
  (hfn:ds.length=fn.params.size->s.fn H ds = { results:=[.lit (.bool true)],args:=ds })
  (hW:DataW.Whole enc P fn.params.toList s.vars false W args.toList ds gs before) {sp:CallSpec} (ht:Triple P f sp) (hp:sp.pre) (hfo:∀ E,sp.fnok E) (hin:sp.hin = []) (hout:sp.hout = []) (hr:sp.res=bv true)
  (hla:args.toList.length=sp.args.length) (hra:∀ k,Rel (envOf W) true (sp.args.getD k .any) (args.toList.getD k undef)) :
  Calls P f args W fun e W' => ∃ v,e = .returned v/\s.post enc P fn false true false false W args v W':=by
 have hok:=heapOK_of P W
 have h:=ht.2 hp (envOf W) W args.toList (hfo _) (by rw [hin]; exact hok) hla hra
 refine (h (by rw [hout]; intro p hp; cases hp)).mono fun e W' hpost => ?_
 obtain ⟨v,E',he,hh,hv,_⟩:=hpost
 rw [hr] at hv
 have hvt:v = .bool true:=by cases hv; rfl
 subst hvt
 have hb:Below W.heap.size W W':=⟨hh.os,hh.tape,hh.output,hh.size,fun k hk=>hh.pres k (by
  rintro (hc | ⟨q,hq,_⟩)
  ·exact absurd hk (Nat.not_lt.2 hc)
  ·rw [hin] at hq; cases hq)⟩
 refine ⟨_,he,?_⟩
 have hW':=hW
 obtain ⟨p,q,hA,hV,rfl,hz,hnd⟩:=hW
 rw [hvars] at hV
 obtain ⟨rfl,rfl⟩:=ChangeShapes.trodVars_none hV
 have hlen:ds.length=fn.params.size:=by
  have:∀ {ts:List TypeId} {vs:List Value} {ds:List (DataW H)} {ps:List MemPlace},DataW.TrodAll enc P W 0 (fun _=>true) true ts vs ds ps->ds.length=ts.length:=by
   intro ts
   induction ts with
   | nil=>intro vs ds ps h; obtain ⟨_,rfl,_⟩:=ChangeShapes.trodAll_nil h; rfl
   | cons t ts ih=>intro vs ds ps h; obtain ⟨_,_,_,_,_,_,rfl,rfl,rfl,_,hr⟩:=ChangeShapes.trodAll_cons h; simp [ih hr]
  simpa using this hA
 refine ⟨ds,[],p ++ [],[],p,[],hW',?_,?_,?_,hb.frame _,fun h=>by cases h⟩
 ·rw [List.append_nil,hfn hlen,hres]
  exact ChangeShapes.trodAll_mk1 (shut_bool htb true)
 ·rw [List.append_nil,hfn hlen]
  exact trodAll_below hl hb hread hA (fun x hx=>hW'.lt x (List.mem_append_left _ hx))
 ·rw [List.append_nil,hfn hlen,hvars]
  rfl
end Go.Ab
namespace Go.Ab
open Go Go.RowKit Go.Proofs Go.Sh Go.En
theorem dInt:Dec Try.prog 3 (fun n=>[iv n]) (fun n => -9223372036854775808<=n/\n<=9223372036854775807):=dec_int Try.underlying3
theorem dInts:Dec Try.prog 30 (fun l:List Int=>[aInts l]) (fun l=>l.length<=140737488355328) :=
 Dec.map (dec_slice (α:=Int) Try.underlying30 (by kernel_rfl) (by decide) (Nat.lt_of_lt_of_eq (by decide:0 < 8) (by kernel_rfl)) dInt) id (fun _ _=>rfl) (fun _ h=>h.1)
theorem dSpan:Dec Try.prog 37 cSpan (fun _=>True) :=
 Dec.map (dec_struct Try.underlying37 (sz:=2) (by kernel_rfl) (decFs_cons (mid:=1) rfl rfl (by kernel_rfl) dInt (decFs_cons (mid:=2) rfl rfl (by kernel_rfl) dInt decFs_nil))) (fun p=>(⟨p.1,p.2.1⟩:Span)) (fun _ _=>rfl) (fun _ _=>trivial)
theorem dSpans:Dec Try.prog 40 (fun l:List Span=>[aSpans l]) (fun l=>l.length<=140737488355328) :=
 Dec.map (dec_slice (α:=Span) Try.underlying40 (by kernel_rfl) (by decide) (Nat.lt_of_lt_of_eq (by decide:0 < 16) (by kernel_rfl)) dSpan) id (fun _ _=>rfl) (fun _ h=>h.1)
theorem dMach:Dec Try.prog 42 cMach (fun m=>m.changes.length<=140737488355328) :=
 Dec.map (dec_struct Try.underlying42 (sz:=2) (by kernel_rfl) (decFs_cons (mid:=1) rfl rfl (by kernel_rfl) dSpans (decFs_cons (mid:=2) rfl rfl (by kernel_rfl) dInt decFs_nil))) (fun p=>(⟨p.1,p.2.1⟩:Mach)) (fun _ _=>rfl) (fun _ h=>h.1)
theorem dFnd:Dec Try.prog 32 cFnd (fun c=>c.new.length<=140737488355328/\c.frm.length<=140737488355328) :=
 Dec.map (dec_struct Try.underlying32 (sz:=3) (by kernel_rfl) (decFs_cons (mid:=1) rfl rfl (by kernel_rfl) dInt (decFs_cons (mid:=2) rfl rfl (by kernel_rfl) dInts (decFs_cons (mid:=3) rfl rfl (by kernel_rfl) dInts decFs_nil)))) (fun p=>(⟨p.1,p.2.1,p.2.2.1⟩:Fnd)) (fun _ _=>rfl) (fun _ h=>⟨h.2.1,h.2.2.1⟩)
theorem dMachs:Dec Try.prog 22 (fun l:List Mach=>[.sl 2 l.length (fun i=>cMach (l.getD i default))]) (fun l=>l.length<=140737488355328 /\ ∀ m,m ∈ l->m.changes.length<=140737488355328) :=
 dec_slice (α:=Mach) Try.underlying22 (by kernel_rfl) (by decide) (Nat.lt_of_lt_of_eq (by decide:0 < 32) (by kernel_rfl)) dMach
theorem dFnds:Dec Try.prog 23 (fun l:List Fnd=>[.sl 3 l.length (fun i=>cFnd (l.getD i default))]) (fun l=>l.length<=140737488355328 /\ ∀ c,c ∈ l->c.new.length<=140737488355328/\c.frm.length<=140737488355328) :=
 dec_slice (α:=Fnd) Try.underlying23 (by kernel_rfl) (by decide) (Nat.lt_of_lt_of_eq (by decide:0 < 56) (by kernel_rfl)) dFnd
theorem dRun:Dec Try.prog 25 cRun fits:=by
 refine Dec.map (dec_struct Try.underlying25 (sz:=4) (by kernel_rfl) (decFs_cons (mid:=1) rfl rfl (by kernel_rfl) dInt (decFs_cons (mid:=2) rfl rfl (by kernel_rfl) dInt (decFs_cons (mid:=3) rfl rfl (by kernel_rfl) dMachs (decFs_cons (mid:=4) rfl rfl (by kernel_rfl) dFnds decFs_nil))))) (fun p=>(⟨p.1,p.2.1,p.2.2.1,p.2.2.2.1⟩:Run)) (fun _ _=>rfl) (fun p h => ?_)
 obtain ⟨_,_,⟨h1,h2⟩,⟨h3,h4⟩,_⟩:=h
 refine ⟨Nat.le_trans h1 (by decide),Nat.le_trans h3 (by decide),fun i => ?_,fun i => ?_⟩
 ·show (p.2.2.1.getD i default).changes.length<=_
  by_cases hi:i < p.2.2.1.length
  ·exact Nat.le_trans (h2 _ (getD_mem _ default hi)) (by decide)
  ·rw [getD_ge _ _ (by omega)]; exact Nat.zero_le _
 ·show (p.2.2.2.1.getD i default).new.length<=_/\(p.2.2.2.1.getD i default).frm.length<=_
  by_cases hi:i < p.2.2.2.1.length
  ·have:=h4 _ (getD_mem _ default hi)
   exact ⟨Nat.le_trans this.1 (by decide),Nat.le_trans this.2 (by decide)⟩
  ·rw [getD_ge _ _ (by omega)]; exact ⟨Nat.zero_le _,Nat.zero_le _⟩
set_option maxRecDepth 100000
theorem laidOut:laidOutB Try.prog=true:=by kernel_rfl
section
variable {H:Type} {enc:TypeId × Value->H} {W:World} {base:Nat} {v:Value} {d:DataW H} {ps:List MemPlace}
theorem arg_struct {t:TypeId} {fs:Array Field} {α:Type} {c:α->List AV} {ok:α->Prop} (ht:Try.prog.underlying t=some (.struct fs)) (hD:Dec Try.prog t c ok) (hval:Value.okWide Try.prog W .any base t v) (hd:DataW.Trod enc Try.prog W 0 (fun _=>true) true t v d ps) (hw:∀ n ∈ d.weights Try.prog t,n<=reachBytes) :
  ∃ a,ok a/\Rel (envOf W) true (.agg (c a)) v:=by
 unfold Value.okWide at hval
 rw [ht] at hval
 obtain ⟨cs,rfl,_⟩:=hval
 obtain ⟨a,ha,hr⟩:=hD.arg (E:=envOf W) (fun _=>rfl) hd hw
 refine ⟨a,ha,?_⟩
 have h:=Rel.agg (hr true)
 simpa [Value.cells] using h
theorem arg_int (hval:Value.okWide Try.prog W .any base 3 v) (hd:DataW.Trod enc Try.prog W 0 (fun _=>true) true 3 v d ps):∃ n:Int,(-9223372036854775808<=n/\n<=9223372036854775807)/\Rel (envOf W) true (iv n) v:=by
 obtain ⟨n,rfl,_,_,hw⟩:=ChangeShapes.open_int Try.underlying3 hval hd
 exact ⟨n,lit_wf hw,.lit _⟩
end
theorem weights_part {H:Type} {ts:List TypeId} {ds:List (DataW H)} (h:(DataW.weightsEach Try.prog ts ds).all (· <= reachBytes)=true) {j:Nat} {t:TypeId} {d:DataW H} (ht:ts[j]? = some t) (hd:ds[j]? = some d):∀ n ∈ d.weights Try.prog t,n<=reachBytes:=by
 intro n hn
 have:=List.all_eq_true.1 h _ (DataW.weights_mem_each ht hd n hn)
 simpa using this
theorem law_run2 {f:FuncId} {fn:Func} {s:ChangeSpec} (hps:fn.params = #[25,3,3]) (hres:fn.resultTypes = #[4]) (hvars:s.vars = []) (hfn:∀ (H:Type) (d1 d2 d3:DataW H),s.fn H [d1,d2,d3] = { results:=[.lit (.bool true)],args:=[d1,d2,d3] })
  (sp:Run->Int->Int->CallSpec) (ht:∀ r a b,Triple Try.prog f (sp r a b)) (hargs:∀ r a b,(sp r a b).args = [vRun r,iv a,iv b]) (hpre:∀ r a b,fits r->(-9223372036854775808<=a/\a<=9223372036854775807)->(-9223372036854775808<=b/\b<=9223372036854775807)->(sp r a b).pre)
  (hfo:∀ r a b E,(sp r a b).fnok E) (hin:∀ r a b,(sp r a b).hin = []) (hout:∀ r a b,(sp r a b).hout = []) (hr:∀ r a b,(sp r a b).res=bv true)
  {H:Type} {enc:TypeId × Value->H} {W:World} {base:Nat} {args:Array Value} {ds gs:List (DataW H)} {before:List MemPlace}
  (hval:∀ (j:Nat) t v,fn.params[j]? = some t->args[j]? = some v->Value.okWide Try.prog W .any base t v) (hW:DataW.Whole enc Try.prog fn.params.toList s.vars false W args.toList ds gs before)
  (hsz:(DataW.weightsEach Try.prog (fn.params.toList ++ s.plain.varTypes Try.prog) (ds ++ gs)).all (· <= reachBytes)=true) :
  Calls Try.prog f args W fun e W' => ∃ v,e = .returned v/\s.post enc Try.prog fn false true false false W args v W':=by
 have hW':=hW
 obtain ⟨p,q,hA,_,_,_,_⟩:=hW
 rw [hps] at hA hval hsz
 obtain ⟨v0,v1,v2,d0,d1,d2,p0,p1,p2,rfl,rfl,rfl,h0,h1,h2⟩:=ChangeShapes.trodAll_three hA
 obtain ⟨r,hr0,r0⟩:=arg_struct Try.underlying25 dRun (hval 0 25 v0 rfl rfl) h0 (weights_part hsz (j:=0) rfl rfl)
 obtain ⟨a,ha,r1⟩:=arg_int (hval 1 3 v1 rfl rfl) h1
 obtain ⟨b,hb,r2⟩:=arg_int (hval 2 3 v2 rfl rfl) h2
 refine law_contract laidOut hvars hres Try.underlying4 (fun t htt => ?_) (fun _=>hfn H d0 d1 d2) hW' (ht r a b) (hpre r a b hr0 ha hb) (hfo r a b) (hin r a b) (hout r a b) (hr r a b) (by rw [hargs]; rfl) (fun k => ?_)
 ·rw [hps] at htt
  have:t=25 ∨ t=3:=by simpa using htt
  rcases this with rfl | rfl
  ·exact ⟨by kernel_rfl,of_decide_eq_true (by kernel_rfl)⟩
  ·exact ⟨by kernel_rfl,of_decide_eq_true (by kernel_rfl)⟩
 ·rw [hargs]
  rcases k with _ | _ | _ | k
  ·exact r0
  ·exact r1
  ·exact r2
  ·exact .any _
end Go.Ab
namespace Go.Proofs.Ytcbgfmalillplaa
open Go Go.Ab Go.Sh Go.En Go.RowKit
set_option maxRecDepth 100000
theorem own:ownKnob Try.prog.godebug=none:=by kernel_rfl
def nilArgs:Array Value := #[.agg #[.int .i64 0,.int .i64 0,.slice none 0 0,.slice none 0 0],.int .i64 0,.int .i64 0]
theorem lifted (os:Os) (started:os.Started) (H:Type) (enc:TypeId × Value->H) :
  ReturnsInHanded {} Try.checked os 13 .any (Rows.copiesFoundSpec.pre6 enc Try.prog Try.f13 Rows.copiesFoundRow.domain false) (Rows.copiesFoundSpec.post enc Try.prog Try.f13 false true false false):=by
 refine returnsInHanded_of_change_sized (C:=Try.checked) own started (by kernel_rfl) Try.func13
  (ChangeSpec.witness6 (enc:=enc) (C:=Try.checked) false ⟨#[],nilArgs,[]⟩ 8 (by kernel_rfl) (by kernel_rfl) (by kernel_rfl) (by kernel_rfl)) ?_
 intro W base args ds gs before hval hW _ hsz _
 exact law_run2 Try.params13 rfl rfl (fun _ _ _ _=>rfl) s13 t13 (fun _ _ _=>rfl) (fun _ _ _ h _ _=>h) (fun _ _ _ _=>trivial) (fun _ _ _=>rfl) (fun _ _ _=>rfl) (fun _ _ _=>rfl) hval hW hsz
theorem proved:Rows.CopiesFoundSaid :=
 OpenClaim.holds_of_wide 13 Try.f13 rfl rfl rfl rfl rfl rfl rfl ⟨rfl,rfl,rfl,rfl,rfl⟩ rfl rfl rfl rfl rfl (by kernel_rfl) Try.func13 (by kernel_rfl)
  (of_decide_eq_true (by kernel_rfl)) (by unfold Func.isWrapper; first | (rw [if_pos (by decide +kernel)]; kernel_rfl) | (rw [if_neg (by decide +kernel)]; exact ⟨rfl,rfl⟩))
  (fun os started H enc _=>lifted os started H enc)
end Go.Proofs.Ytcbgfmalillplaa
