/- AdvertsOwed returns true for every input, and leaves what it was handed as it was. No condition. -/
import Derived.Test.YtdmkicejjbjdkaaGreatQAdvertsOwed5
import Derived.Deep.Slices
import Derived.ChangeShapes
import Derived.Carry
import Derived.OpenShut
import Derived.SizedLaws
import Derived.Test.YtdmkicejjbjdkaaGreatRows
import Derived.ProofKit
import Derived.JoinedOf
set_option linter.all false
set_option linter.deprecated false
namespace Go.Ab
open Go Go.RowKit
def Dec (P:Program) (t:TypeId) {α:Type} (c:α->List AV) (ok:α->Prop):Prop :=
 ∀ {H:Type} (enc:TypeId × Value->H) (w:World) (E:Env) (fuel:Nat) (cs:List Value) (d:DataW H) (ps:List MemPlace),
  (∀ b,E.M b=w.heap[b]?)->DataW.trod enc P w 0 (fun _=>true) true fuel t cs=some (d,ps)->(∀ n ∈ d.weights P t,n<=reachBytes) -> ∃ a,ok a /\ ∀ o,RelL E o (c a) cs
theorem mcell_of {E:Env} {w:World} (h:∀ b,E.M b=w.heap[b]?) {a:Addr} {v:Value} (hc:w.cell? a=some v):a.spot=none/\mcell E.M a.block a.off=some v:=by
 refine ⟨World.cell?_spot hc,?_⟩
 have hs:=World.cell?_spot hc
 unfold World.cell? at hc
 unfold mcell
 rw [h]
 split at hc
 ·rename_i c t fr e
  rw [hs] at hc
  rw [e]
  simpa using hc
 ·cases hc
theorem lit_wf {n:Int} (h:(Lit.int .i64 n).wf=true) : -9223372036854775808<=n/\n<=9223372036854775807:=by
 simpa [Lit.wf,IntKind.min,IntKind.max,IntKind.signed,IntKind.bits] using h
theorem dec_int {P:Program} {t:TypeId} (ht:P.underlying t=some (.int .i64)):Dec P t (fun n=>[iv n]) (fun n => -9223372036854775808<=n/\n<=9223372036854775807):=by
 intro H enc w E fuel cs d ps _ h _
 obtain ⟨n,rfl,_,hw⟩:=DataW.trod_int ht h
 exact ⟨n,lit_wf hw,fun o => .cons (.lit _) rfl .nil⟩
theorem weightsAll_mem {H:Type} {P:Program} {e:TypeId}:∀ {l:List (DataW H)} {d:DataW H},d ∈ l -> ∀ n ∈ d.weights P e,n ∈ DataW.weightsAll P e l:=by
 intro l
 induction l with
 | nil=>intro d h; cases h
 | cons x l ih =>
  intro d h n hn
  rw [DataW.weightsAll,List.mem_append]
  rcases List.mem_cons.1 h with rfl | h
  ·exact .inl hn
  ·exact .inr (ih h n hn)
theorem dec_slice {P:Program} {t e:TypeId} {α:Type} [Inhabited α] {c:α->List AV} {ok:α->Prop} (ht:P.underlying t=some (.slice e)) {sz:Nat} (hsz:P.cellsOf e=sz) (hpos:0 < sz) (hby:0 < P.bytesOf e) (he:Dec P e c ok) :
  Dec P t (fun l:List α=>[.sl sz l.length (fun i=>c (l.getD i default))]) (fun l=>l.length<=140737488355328 /\ ∀ a,a ∈ l->ok a):=by
 intro H enc w E fuel cs d ps hE h hw
 rcases Deep.open_slice ht h with ⟨rfl,hx⟩ | ⟨a,len,cap,m,n,D,Pl,rfl,hb,hl,hm,hmm,hx,hall⟩
 ·refine ⟨[],⟨Nat.zero_le _,fun a ha=>by cases ha⟩,fun o => ?_⟩
  exact .cons (.slN _ _) rfl .nil
 ·simp only [if_true] at hmm
  subst hmm
  rw [hsz] at hall
  obtain ⟨rfl,rfl⟩:=Prod.mk.inj hx
  have hwt:∀ i,i < len -> ∀ k ∈ (D i).weights P e,k<=reachBytes:=by
   intro i hi k hk
   refine hw k ?_
   rw [DataW.weights,ht]
   refine List.mem_cons_of_mem _ (List.mem_append_left _ (weightsAll_mem (d:=D i) ?_ k hk))
   exact List.mem_map.2 ⟨i,List.mem_range.2 hi,rfl⟩
  have hlen:len<=140737488355328:=by
   have h1:(((List.range len).map D).length + ((List.range (m - len)).map fun j=>D (len + j)).length) * P.bytesOf e<=reachBytes:=by
    refine hw _ ?_
    rw [DataW.weights,ht]
    exact List.mem_cons_self ..
   simp only [List.length_map,List.length_range] at h1
   have h2:len<=(len + (m - len)) * P.bytesOf e:=Nat.le_trans (Nat.le_add_right _ _) (Nat.le_mul_of_pos_right _ hby)
   have h3:=reachBytes_lt
   omega
  obtain ⟨g,hg⟩:=Deep.choose_lt (α:=List Value) (p:=fun i cs'=>w.cells? 0 (a.add (i * sz)) sz=some cs'/\DataW.trod enc P w 0 (fun _=>true) true n e cs'=some (D i,Pl i)) hall
  have hdec:∀ i,i < len -> ∃ x,ok x /\ ∀ o,RelL E o (c x) (g i):=fun i hi=>he enc w E n (g i) (D i) (Pl i) hE (hg i (by omega)).2 (hwt i hi)
  obtain ⟨A,hA⟩:=Deep.choose_lt (α:=α) (p:=fun i x=>ok x /\ ∀ o,RelL E o (c x) (g i)) hdec
  refine ⟨(List.range len).map A,⟨by simpa using hlen,fun x hx => ?_⟩,fun o => .cons ?_ rfl .nil⟩
  ·obtain ⟨i,hi,rfl⟩:=List.mem_map.1 hx
   exact (hA i (List.mem_range.1 hi)).1
  ·rw [List.length_map,List.length_range]
   have hcell:∀ i k,i < m->k < sz -> ∃ v,(g i)[k]? = some v/\w.cell? ((a.add (i * sz)).add k)=some v:=by
    intro i k hi hk
    obtain ⟨_,hl1,hl2⟩:=World.cells?_some (hg i hi).1
    have:=hl2 k hk
    obtain ⟨v,hv⟩:∃ v,(g i)[k]? = some v:=⟨_,List.getElem?_eq_getElem (by omega)⟩
    exact ⟨v,hv,by rw [this,hv]⟩
   by_cases h0:m=0
   ·subst h0
    obtain rfl:len=0:=by omega
    exact .slZ _ _ _
   ·obtain ⟨v,_,hv⟩:=hcell 0 0 (by omega) hpos
    have hsp:=(mcell_of hE hv).1
    obtain ⟨b,off,spot⟩:=a
    obtain rfl:spot=none:=by simpa [Addr.add] using hsp
    refine .slA sz len _ b off m g hl hm (fun i hi => ?_) (fun i k hi hk => ?_) (fun i hi => ?_)
    ·exact (World.cells?_some (hg i (by omega)).1).2.1
    ·obtain ⟨v,hv1,hv2⟩:=hcell i k (by omega) hk
     rw [hv1]
     have:=(mcell_of hE hv2).2
     rw [addr_add,addr_add] at this
     exact this
    ·have:((List.range len).map A).getD i default=A i:=by
      rw [List.getD_eq_getElem?_getD,List.getElem?_map,List.getElem?_range hi]; rfl
     rw [this]
     exact (hA i hi).2 false
def DecFs (P:Program) (off fin:Nat) (fs:List Field) {α:Type} (c:α->List AV) (ok:α->Prop):Prop :=
 ∀ {H:Type} (enc:TypeId × Value->H) (w:World) (E:Env) (n:Nat) (cs:List Value) (xs:List (DataW H × List MemPlace)),
  (∀ b,E.M b=w.heap[b]?)->cs.length=fin->xs.length=fs.length->(∀ (i:Nat) (f:Field),fs[i]? = some f->DataW.trod enc P w 0 (fun _=>true) true n f.type ((cs.drop f.offset).take (P.cellsOf f.type))=xs[i]?) →
  (∀ k ∈ DataW.weightsEach P (fs.map (·.type)) (xs.map (·.1)),k<=reachBytes) -> ∃ a,ok a /\ ∀ o,RelL E o (c a) (cs.drop off)
theorem decFs_nil {P:Program} {fin:Nat}:DecFs P fin fin [] (fun _:Unit=>[]) (fun _=>True):=by
 intro H enc w E n cs xs _ hl _ _ _
 refine ⟨(),trivial,fun o => ?_⟩
 rw [List.drop_of_length_le (by omega)]
 exact .nil
theorem decFs_cons {P:Program} {off mid fin:Nat} {f:Field} {fs:List Field} {α β:Type} {c1:α->List AV} {ok1:α->Prop} {c2:β->List AV} {ok2:β->Prop} {t:TypeId} (hft:f.type=t) (ho:f.offset=off) (hm:off + P.cellsOf t=mid)
  (h1:Dec P t c1 ok1) (h2:DecFs P mid fin fs c2 ok2):DecFs P off fin (f :: fs) (fun p:α × β=>c1 p.1 ++ c2 p.2) (fun p=>ok1 p.1/\ok2 p.2):=by
 intro H enc w E n cs xs hE hl hx hall hw
 subst hft; subst ho; subst hm
 cases xs with
 | nil=>simp at hx
 | cons x xs =>
  have h0:=hall 0 f rfl
  simp only [List.getElem?_cons_zero] at h0
  obtain ⟨a,ha,hra⟩:=h1 enc w E n _ x.1 x.2 hE h0 (fun k hk=>hw k (by
   simp only [List.map_cons,DataW.weightsEach]
   exact List.mem_append_left _ hk))
  obtain ⟨b,hb,hrb⟩:=h2 enc w E n cs xs hE hl (by simpa using hx) (fun i g hg=>by
   have:=hall (i + 1) g (by simpa using hg)
   simpa using this) (fun k hk=>hw k (by
   simp only [List.map_cons,DataW.weightsEach]
   exact List.mem_append_right _ hk))
  refine ⟨(a,b),⟨ha,hb⟩,fun o => ?_⟩
  have:=(hra o).append (hrb o)
  rw [← List.drop_drop,List.take_append_drop] at this
  exact this
theorem dec_struct {P:Program} {t:TypeId} {fs:Array Field} {sz:Nat} {α:Type} {c:α->List AV} {ok:α->Prop} (ht:P.underlying t=some (.struct fs)) (hsz:P.cellsOf t=sz) (h:DecFs P 0 sz fs.toList c ok):Dec P t c ok:=by
 intro H enc w E fuel cs d ps hE hd hw
 obtain ⟨xs,n,_,hx,hl,hxl,hall⟩:=DataW.trod_struct ht hd
 obtain ⟨rfl,rfl⟩:=Prod.mk.inj hx
 obtain ⟨a,ha,hr⟩:=h enc w E n cs xs hE (by omega) (by simpa using hxl) (fun i f hf=>hall i f (by simpa using hf)) (fun k hk=>hw k (by rw [DataW.weights,ht]; exact hk))
 exact ⟨a,ha,fun o=>by simpa using hr o⟩
theorem Dec.map {P:Program} {t:TypeId} {α β:Type} {c:α->List AV} {ok:α->Prop} {c':β->List AV} {ok':β->Prop} (h:Dec P t c ok) (g:α->β) (hc:∀ a,ok a->c' (g a)=c a) (hok:∀ a,ok a->ok' (g a)):Dec P t c' ok':=by
 intro H enc w E fuel cs d ps hE hd hw
 obtain ⟨a,ha,hr⟩:=h enc w E fuel cs d ps hE hd hw
 exact ⟨g a,hok a ha,fun o=>by rw [hc a ha]; exact hr o⟩
theorem Dec.arg {P:Program} {t:TypeId} {α:Type} {c:α->List AV} {ok:α->Prop} (h:Dec P t c ok) {H:Type} {enc:TypeId × Value->H} {w:World} {E:Env} (hE:∀ b,E.M b=w.heap[b]?) {v:Value} {d:DataW H} {ps:List MemPlace}
  (hd:DataW.Trod enc P w 0 (fun _=>true) true t v d ps) (hw:∀ n ∈ d.weights P t,n<=reachBytes):∃ a,ok a /\ ∀ o,RelL E o (c a) v.cells.toList:=by
 obtain ⟨fuel,hf⟩:=hd
 exact h enc w E fuel _ d ps hE hf hw
def envOf (w:World):Env:={ M:=fun b=>w.heap[b]?,blk:=fun _=>none,hdr:=fun _=>none,fns:=fun _ _=>False }
theorem heapOK_of (P:Program) (w:World):HeapOK (calleeCtx P (envOf w) w []) (envOf w) (Heap.of []) w where
 os:=rfl
 tape:=rfl
 output:=rfl
 size:=Nat.le_refl _
 pres:=fun _ _=>rfl
 mem:=fun _ _ h=>h
 le:=Env.le.refl _
 ext:=fun _ _ h => .inl h
 own:=fun id ob h=>by cases h
 sep:=fun i j k _ h=>absurd rfl h
theorem trodAll_below {H:Type} {enc:TypeId × Value->H} {P:Program} (hl:laidOutB P=true) {W W':World} (hb:Below W.heap.size W W'):∀ {ts:List TypeId} {vs:List Value} {ds:List (DataW H)} {ps:List MemPlace},
  (∀ t ∈ ts,P.readableRec t=true/\t < P.types.size)->DataW.TrodAll enc P W 0 (fun _=>true) true ts vs ds ps->(∀ x ∈ ps,x.block < W.heap.size) →
  DataW.TrodAll enc P W' 0 (fun b=>decide (b < W.heap.size)) true ts vs ds ps:=by
 intro ts
 induction ts with
 | nil =>
  intro vs ds ps _ h _
  obtain ⟨rfl,rfl,rfl⟩:=ChangeShapes.trodAll_nil h
  exact ChangeShapes.trodAll_mk0
 | cons t ts ih =>
  intro vs ds ps hr h hlt
  obtain ⟨v,vs',d,ds',p,q,rfl,rfl,rfl,hd,hrest⟩:=ChangeShapes.trodAll_cons h
  obtain ⟨h1,h2⟩:=hr t (List.mem_cons_self ..)
  exact ⟨p,q,Below.trod hl h1 h2 hd hb (fun x hx=>hlt x (List.mem_append_left _ hx)),ih (fun t ht=>hr t (List.mem_cons_of_mem _ ht)) hrest (fun x hx=>hlt x (List.mem_append_right _ hx)),rfl⟩
theorem law_contract {P:Program} (hl:laidOutB P=true) {f:FuncId} {fn:Func} {s:ChangeSpec} (hvars:s.vars = []) {tb:TypeId} (hres:fn.resultTypes = #[tb]) (htb:P.underlying tb=some .bool)
  (hread:∀ t ∈ fn.params.toList,P.readableRec t=true/\t < P.types.size)
  {H:Type} {enc:TypeId × Value->H} {W:World} {args:Array Value} {ds gs:List (DataW H)} {before:List MemPlace}
  (hfn:ds.length=fn.params.size->s.fn H ds = { results:=[.lit (.bool true)],args:=ds })
  (hW:DataW.Whole enc P fn.params.toList s.vars false W args.toList ds gs before) {sp:CallSpec} (ht:Triple P f sp) (hp:sp.pre) (hfo:∀ E,sp.fnok E) (hin:sp.hin = []) (hout:sp.hout = []) (hr:sp.res=bv true)
  (hla:args.toList.length=sp.args.length) (hra:∀ k,Rel (envOf W) true (sp.args.getD k .any) (args.toList.getD k undef)) :
  Calls P f args W fun e W' => ∃ v,e = .returned v/\s.post enc P fn false true false false W args v W':=by
 have hok:=heapOK_of P W
 have h:=ht.2 hp (envOf W) W args.toList (hfo _) (by rw [hin]; exact hok) hla hra
 refine (h (by rw [hout]; intro p hp; cases hp)).mono fun e W' hpost => ?_
 obtain ⟨v,E',he,hh,hv,_⟩:=hpost
 rw [hr] at hv
 have hvt:v = .bool true:=by cases hv; rfl
 subst hvt
 have hb:Below W.heap.size W W':=⟨hh.os,hh.tape,hh.output,hh.size,fun k hk=>hh.pres k (by
  rintro (hc | ⟨q,hq,_⟩)
  ·exact absurd hk (Nat.not_lt.2 hc)
  ·rw [hin] at hq; cases hq)⟩
 refine ⟨_,he,?_⟩
 have hW':=hW
 obtain ⟨p,q,hA,hV,rfl,hz,hnd⟩:=hW
 rw [hvars] at hV
 obtain ⟨rfl,rfl⟩:=ChangeShapes.trodVars_none hV
 have hlen:ds.length=fn.params.size:=by
  have:∀ {ts:List TypeId} {vs:List Value} {ds:List (DataW H)} {ps:List MemPlace},DataW.TrodAll enc P W 0 (fun _=>true) true ts vs ds ps->ds.length=ts.length:=by
   intro ts
   induction ts with
   | nil=>intro vs ds ps h; obtain ⟨_,rfl,_⟩:=ChangeShapes.trodAll_nil h; rfl
   | cons t ts ih=>intro vs ds ps h; obtain ⟨_,_,_,_,_,_,rfl,rfl,rfl,_,hr⟩:=ChangeShapes.trodAll_cons h; simp [ih hr]
  simpa using this hA
 refine ⟨ds,[],p ++ [],[],p,[],hW',?_,?_,?_,hb.frame _,fun h=>by cases h⟩
 ·rw [List.append_nil,hfn hlen,hres]
  exact ChangeShapes.trodAll_mk1 (shut_bool htb true)
 ·rw [List.append_nil,hfn hlen]
  exact trodAll_below hl hb hread hA (fun x hx=>hW'.lt x (List.mem_append_left _ hx))
 ·rw [List.append_nil,hfn hlen,hvars]
  rfl
end Go.Ab
namespace Go.Ab
open Go Go.RowKit Go.Proofs Go.Sh Go.En
theorem dInt:Dec Tryz.prog 3 (fun n=>[iv n]) (fun n => -9223372036854775808<=n/\n<=9223372036854775807):=dec_int Tryz.underlying3
set_option maxRecDepth 100000
theorem laidOut:laidOutB Tryz.prog=true:=by kernel_rfl
section
variable {H:Type} {enc:TypeId × Value->H} {W:World} {base:Nat} {v:Value} {d:DataW H} {ps:List MemPlace}
theorem arg_struct {t:TypeId} {fs:Array Field} {α:Type} {c:α->List AV} {ok:α->Prop} (ht:Tryz.prog.underlying t=some (.struct fs)) (hD:Dec Tryz.prog t c ok) (hval:Value.okWide Tryz.prog W .any base t v) (hd:DataW.Trod enc Tryz.prog W 0 (fun _=>true) true t v d ps) (hw:∀ n ∈ d.weights Tryz.prog t,n<=reachBytes) :
  ∃ a,ok a/\Rel (envOf W) true (.agg (c a)) v:=by
 unfold Value.okWide at hval
 rw [ht] at hval
 obtain ⟨cs,rfl,_⟩:=hval
 obtain ⟨a,ha,hr⟩:=hD.arg (E:=envOf W) (fun _=>rfl) hd hw
 refine ⟨a,ha,?_⟩
 have h:=Rel.agg (hr true)
 simpa [Value.cells] using h
theorem arg_int (hval:Value.okWide Tryz.prog W .any base 3 v) (hd:DataW.Trod enc Tryz.prog W 0 (fun _=>true) true 3 v d ps):∃ n:Int,(-9223372036854775808<=n/\n<=9223372036854775807)/\Rel (envOf W) true (iv n) v:=by
 obtain ⟨n,rfl,_,_,hw⟩:=ChangeShapes.open_int Tryz.underlying3 hval hd
 exact ⟨n,lit_wf hw,.lit _⟩
end
theorem weights_part {H:Type} {ts:List TypeId} {ds:List (DataW H)} (h:(DataW.weightsEach Tryz.prog ts ds).all (· <= reachBytes)=true) {j:Nat} {t:TypeId} {d:DataW H} (ht:ts[j]? = some t) (hd:ds[j]? = some d):∀ n ∈ d.weights Tryz.prog t,n<=reachBytes:=by
 intro n hn
 have:=List.all_eq_true.1 h _ (DataW.weights_mem_each ht hd n hn)
 simpa using this
def ArgD (t:TypeId) (α:Type) (c:α->AV) (ok:α->Prop):Prop :=
 (Tryz.prog.readableRec t=true/\t < Tryz.prog.types.size) /\ ∀ {H:Type} {enc:TypeId × Value->H} {W:World} {base:Nat} {v:Value} {d:DataW H} {ps:List MemPlace},Value.okWide Tryz.prog W .any base t v->DataW.Trod enc Tryz.prog W 0 (fun _=>true) true t v d ps->(∀ n ∈ d.weights Tryz.prog t,n<=reachBytes) -> ∃ a,ok a/\Rel (envOf W) true (c a) v
abbrev i64 (n:Int):Prop := -9223372036854775808<=n/\n<=9223372036854775807
theorem argInt:ArgD 3 Int iv i64:=⟨⟨by kernel_rfl,of_decide_eq_true (by kernel_rfl)⟩,fun hv hd _=>arg_int hv hd⟩
theorem argStruct {t:TypeId} {fs:Array Field} {α:Type} {c:α->List AV} {ok:α->Prop} (ht:Tryz.prog.underlying t=some (.struct fs)) (hr:Tryz.prog.readableRec t=true/\t < Tryz.prog.types.size) (hD:Dec Tryz.prog t c ok):ArgD t α (fun a => .agg (c a)) ok:=⟨hr,fun hv hd hw=>arg_struct ht hD hv hd hw⟩
theorem law_two {f:FuncId} {fn:Func} {s:ChangeSpec} {t1 t2:TypeId} {α β:Type} {c1:α->AV} {c2:β->AV} {ok1:α->Prop} {ok2:β->Prop} (h1:ArgD t1 α c1 ok1) (h2:ArgD t2 β c2 ok2)
  (hps:fn.params = #[t1,t2]) (hres:fn.resultTypes = #[4]) (hvars:s.vars = []) (hfn:∀ (H:Type) (d1 d2:DataW H),s.fn H [d1,d2] = { results:=[.lit (.bool true)],args:=[d1,d2] })
  (sp:α->β->CallSpec) (ht:∀ r a,Triple Tryz.prog f (sp r a)) (hargs:∀ r a,(sp r a).args = [c1 r,c2 a]) (hpre:∀ r a,ok1 r->ok2 a->(sp r a).pre)
  (hfo:∀ r a E,(sp r a).fnok E) (hin:∀ r a,(sp r a).hin = []) (hout:∀ r a,(sp r a).hout = []) (hr:∀ r a,(sp r a).res=bv true)
  {H:Type} {enc:TypeId × Value->H} {W:World} {base:Nat} {args:Array Value} {ds gs:List (DataW H)} {before:List MemPlace}
  (hval:∀ (j:Nat) t v,fn.params[j]? = some t->args[j]? = some v->Value.okWide Tryz.prog W .any base t v) (hW:DataW.Whole enc Tryz.prog fn.params.toList s.vars false W args.toList ds gs before)
  (hsz:(DataW.weightsEach Tryz.prog (fn.params.toList ++ s.plain.varTypes Tryz.prog) (ds ++ gs)).all (· <= reachBytes)=true) :
  Calls Tryz.prog f args W fun e W' => ∃ v,e = .returned v/\s.post enc Tryz.prog fn false true false false W args v W':=by
 have hW':=hW
 obtain ⟨p,q,hA,_,_,_,_⟩:=hW
 rw [hps] at hA hval hsz
 obtain ⟨v0,v1,d0,d1,p0,p1,rfl,rfl,rfl,g0,g1⟩:=ChangeShapes.trodAll_two hA
 obtain ⟨r,hr0,r0⟩:=h1.2 (hval 0 t1 v0 rfl rfl) g0 (weights_part hsz (j:=0) rfl rfl)
 obtain ⟨a,ha,r1⟩:=h2.2 (hval 1 t2 v1 rfl rfl) g1 (weights_part hsz (j:=1) rfl rfl)
 refine law_contract laidOut hvars hres Tryz.underlying4 (fun t htt => ?_) (fun _=>hfn H d0 d1) hW' (ht r a) (hpre r a hr0 ha) (hfo r a) (hin r a) (hout r a) (hr r a) (by rw [hargs]; rfl) (fun k => ?_)
 ·rw [hps] at htt
  have:t=t1 ∨ t=t2:=by simpa using htt
  rcases this with rfl | rfl
  ·exact h1.1
  ·exact h2.1
 ·rw [hargs]
  rcases k with _ | _ | k
  ·exact r0
  ·exact r1
  ·exact .any _
end Go.Ab
namespace Go.Ab
open Go Go.RowKit Go.Proofs Go.Sh Go.En
set_option maxRecDepth 100000
theorem dSpan:Dec Tryz.prog 41 cSpan (fun _=>True) :=
 Dec.map (dec_struct Tryz.underlying41 (sz:=2) (by kernel_rfl) (decFs_cons (mid:=1) rfl rfl (by kernel_rfl) dInt (decFs_cons (mid:=2) rfl rfl (by kernel_rfl) dInt decFs_nil))) (fun p=>(⟨p.1,p.2.1⟩:Span)) (fun _ _=>rfl) (fun _ _=>trivial)
theorem dShn:Dec Tryz.prog 74 cShn (fun _=>True) :=
 Dec.map (dec_struct Tryz.underlying74 (sz:=3) (by kernel_rfl) (decFs_cons (mid:=1) rfl rfl (by kernel_rfl) dInt (decFs_cons (mid:=2) rfl rfl (by kernel_rfl) dInt (decFs_cons (mid:=3) rfl rfl (by kernel_rfl) dInt decFs_nil)))) (fun p=>(⟨p.1,p.2.1,p.2.2.1⟩:Shn)) (fun _ _=>rfl) (fun _ _=>trivial)
theorem dCtr:Dec Tryz.prog 68 cCtr (fun _=>True) :=
 Dec.map (dec_struct Tryz.underlying68 (sz:=4) (by kernel_rfl) (decFs_cons (mid:=1) rfl rfl (by kernel_rfl) dInt (decFs_cons (mid:=2) rfl rfl (by kernel_rfl) dInt (decFs_cons (mid:=3) rfl rfl (by kernel_rfl) dInt (decFs_cons (mid:=4) rfl rfl (by kernel_rfl) dInt decFs_nil))))) (fun p=>(⟨p.1,p.2.1,p.2.2.1,p.2.2.2.1⟩:Ctr)) (fun _ _=>rfl) (fun _ _=>trivial)
theorem dSpans:Dec Tryz.prog 22 (fun l:List Span=>[.sl 2 l.length (fun i=>cSpan (l.getD i default))]) (fun l=>l.length<=140737488355328 /\ ∀ m,m ∈ l->True) :=
 dec_slice (α:=Span) Tryz.underlying22 (by kernel_rfl) (by decide) (Nat.lt_of_lt_of_eq (by decide:0 < 16) (by kernel_rfl)) dSpan
theorem dShns:Dec Tryz.prog 23 (fun l:List Shn=>[aShns l]) (fun l=>l.length<=140737488355328 /\ ∀ m,m ∈ l->True) :=
 dec_slice (α:=Shn) Tryz.underlying23 (by kernel_rfl) (by decide) (Nat.lt_of_lt_of_eq (by decide:0 < 24) (by kernel_rfl)) dShn
theorem dCtrs:Dec Tryz.prog 24 (fun l:List Ctr=>[.sl 4 l.length (fun i=>cCtr (l.getD i default))]) (fun l=>l.length<=140737488355328 /\ ∀ m,m ∈ l->True) :=
 dec_slice (α:=Ctr) Tryz.underlying24 (by kernel_rfl) (by decide) (Nat.lt_of_lt_of_eq (by decide:0 < 32) (by kernel_rfl)) dCtr
theorem dBook:Dec Tryz.prog 26 cBk fitsB:=by
 refine Dec.map (dec_struct Tryz.underlying26 (sz:=5) (by kernel_rfl) (decFs_cons (mid:=1) rfl rfl (by kernel_rfl) dSpans (decFs_cons (mid:=2) rfl rfl (by kernel_rfl) dShns (decFs_cons (mid:=3) rfl rfl (by kernel_rfl) dInt (decFs_cons (mid:=4) rfl rfl (by kernel_rfl) dInt (decFs_cons (mid:=5) rfl rfl (by kernel_rfl) dCtrs decFs_nil)))))) (fun p=>(⟨p.1,p.2.1,p.2.2.1,p.2.2.2.1,p.2.2.2.2.1⟩:Book)) (fun _ _=>rfl) (fun p h => ?_)
 obtain ⟨⟨h1,_⟩,⟨h2,_⟩,_,_,⟨h3,_⟩,_⟩:=h
 exact ⟨Nat.le_trans h1 (by decide),Nat.le_trans h2 (by decide),Nat.le_trans h3 (by decide)⟩
theorem argBook:ArgD 26 Book (fun b=>vBk b) fitsB:=argStruct Tryz.underlying26 ⟨by kernel_rfl,of_decide_eq_true (by kernel_rfl)⟩ dBook
end Go.Ab
namespace Go.Proofs.YtdmkicejjbjdkaaGreat
open Go Go.Ab Go.Sh Go.En Go.RowKit
set_option maxRecDepth 100000
theorem own:ownKnob Tryz.prog.godebug=none:=by kernel_rfl
def nilArgs:Array Value := #[.agg #[.slice none 0 0,.slice none 0 0,.int .i64 0,.int .i64 0,.slice none 0 0],.int .i64 0]
theorem lifted (os:Os) (started:os.Started) (H:Type) (enc:TypeId × Value->H) :
  ReturnsInHanded {} Tryz.checked os 4 .any (Rows.advertsOwedSpec.pre6 enc Tryz.prog Tryz.f4 Rows.advertsOwedRow.domain false) (Rows.advertsOwedSpec.post enc Tryz.prog Tryz.f4 false true false false):=by
 refine returnsInHanded_of_change_sized (C:=Tryz.checked) own started (by kernel_rfl) Tryz.func4
  (ChangeSpec.witness6 (enc:=enc) (C:=Tryz.checked) false ⟨#[],nilArgs,[]⟩ 8 (by kernel_rfl) (by kernel_rfl) (by kernel_rfl) (by kernel_rfl)) ?_
 intro W base args ds gs before hval hW _ hsz _
 exact law_two argBook argInt rfl rfl rfl (fun _ _ _=>rfl) s4 t4 (fun _ _=>rfl) (fun _ _ h0 h1=>h0) (fun _ _ _=>trivial) (fun _ _=>rfl) (fun _ _=>rfl) (fun _ _=>rfl) hval hW hsz
theorem proved:Rows.AdvertsOwedSaid :=
 OpenClaim.holds_of_wide 4 Tryz.f4 rfl rfl rfl rfl rfl rfl rfl ⟨rfl,rfl,rfl,rfl,rfl⟩ rfl rfl rfl rfl rfl (by kernel_rfl) Tryz.func4 (by kernel_rfl)
  (of_decide_eq_true (by kernel_rfl)) (by unfold Func.isWrapper; first | (rw [if_pos (by decide +kernel)]; kernel_rfl) | (rw [if_neg (by decide +kernel)]; exact ⟨rfl,rfl⟩))
  (fun os started H enc _=>lifted os started H enc)
end Go.Proofs.YtdmkicejjbjdkaaGreat
