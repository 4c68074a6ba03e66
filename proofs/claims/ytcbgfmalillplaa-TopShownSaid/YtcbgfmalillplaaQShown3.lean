/- Part 3 of the proof: own library, plain forms and walks. -/
import Derived.Test.YtcbgfmalillplaaQShown2
set_option linter.all false
set_option linter.deprecated false
namespace Go.Ab
open Go Go.RowKit Go.Proofs Go.Sh Go.En
theorem w114 (n:Int)
  (o0:(!within n (-1) 1)=badNew n) :
  Triple Try.prog 114 (s114 n):=by
 refine triple_of Try.func114 rfl Try.call114 T0_ok _ rfl rfl rfl rfl (Nat.le_of_ble_eq_true (by kernel_rfl)) (fun _ _ _ _ h=>h) ?_
 intro _ C hC _ hE
 obtain ⟨P,w0,E0,av,hA⟩:=C
 subst hC
 refine swp_seq ?_
 refine sQ (kt:=[0]) (kh:=[]) (q:=True/\True) (st':=ASt.mk [(0,iv n)] [] 8) ⟨tv,tv⟩ ?_
 refine swp_seq ?_
 refine sC (cs:=[(1,CallSpec.eq (s112 n (-1) 1) [true,true,true])]) (kt:=[2]) (kh:=[]) (q:=True/\((iv n=iv n/\zE (iv (-1))/\iv 1=iv 1/\True)/\Triple Try.prog 112 (s112 n (-1) 1)/\True/\True /\ ∀ (i0:Env),True)/\tn 2) (st':=ASt.mk [(2,bv !within n (-1) 1)] [] 40) ⟨tv,⟨⟨rfl,rfl,rfl,tv⟩,(t112 (n) (-1) (1)),tv,tv,(fun i0=>tv)⟩,tp 2⟩ ?_
 refine swp_ret ?_
 exact rQ [] ((True/\True)/\(zN (bv !within n (-1) 1) (bv (badNew n)))/\T3) ⟨⟨tv,tv⟩,⟨(congrArg bv (o0)),rfl⟩,rfl,rfl,rfl⟩
theorem t114 (n:Int):Triple Try.prog 114 (s114 n):=by
 apply w114
 all_goals (try ((repeat intro _) <;> (try simp only [v0,v1,v2,v3,v4,v5,v6,v7,v8,v9,inI,fits,Go.Sh.small] at *) <;> first | (exact rfl) | omega | exact vz | (simp_all; done) | (simp_all; omega)))
abbrev z136_1 (l:List Int) (p:Int->Bool):LoopAnn:=Hint.ann (h136 l p) [(0,aInts l),(1,AV.fn 0),(7,iv (↑(l.length):Int))] [] 10032
abbrev q136_1 (l:List Int) (p:Int->Bool) (C:Env->Prop):Prop := ∀ (E0:Env),fnokOf Try.prog 0 (fun (w:{ n:Int // n ∈ l })=>[iv (Subtype.val w)]) (fun (w:{ n:Int // n ∈ l })=>bv (p (Subtype.val w))) E0->l.length<=1125899906842624->C E0
abbrev q136_2 (l:List Int) (p:Int->Bool) (C:Env->Nat->Prop):Prop:=q136_1 l p fun E0 => ∀ (x0:Nat),(x0<=l.length /\ ∀ (j:Nat),j < x0->p (l.getD j 0)=false)->decide ((x0:Int) < (↑(l.length):Int))=true->C E0 x0
theorem w136 (l:List Int) (p:Int->Bool)
 (o0:q136_1 l p fun E0=>0=(↑0:Int))
 (o1:q136_1 l p fun E0=>0<=l.length /\ ∀ (j:Nat),j < 0->p (l.getD j 0)=false)
 (o2:q136_2 l p fun E0 x0=>0<=(x0:Int))
 (o3:q136_2 l p fun E0 x0=>(x0:Int) < (↑(l.length):Int))
 (o4:q136_2 l p fun E0 x0 => ∀ (i2:Value),E0.4 0 i2->FnOK Try.prog E0 i2 [iv (l.getD x0 0)] (bv (p (l.getD x0 0))))
 (o5:q136_2 l p fun E0 x0=>p (l.getD x0 0)=true->(x0:Int)=idxF l p)
 (o6:q136_2 l p fun E0 x0=>p (l.getD x0 0)=false->inI ((x0:Int) + 1))
 (o7:q136_2 l p fun E0 x0=>p (l.getD x0 0)=false->(x0:Int) + 1=(↑(x0 + 1):Int))
 (o8:q136_2 l p fun E0 x0=>p (l.getD x0 0)=false->x0 + 1<=l.length /\ ∀ (j:Nat),j < x0 + 1->p (l.getD j 0)=false)
 (o9:q136_2 l p fun E0 x0=>p (l.getD x0 0)=false->l.length - (x0 + 1) < l.length - x0)
 (o10:q136_1 l p fun E0 => ∀ (x0:Nat),(x0<=l.length /\ ∀ (j:Nat),j < x0->p (l.getD j 0)=false)->decide ((x0:Int) < (↑(l.length):Int))=false -> -1=idxF l p) :
  Triple Try.prog 136 (s136 l p):=by
 refine triple_of Try.func136 rfl Try.call136 T0_ok _ rfl rfl rfl rfl (Nat.le_of_ble_eq_true (by kernel_rfl)) fnokOf_congr ?_
 intro hp C hC hfn hE
 obtain ⟨P,w0,E0,av,hA⟩:=C
 subst hC
 refine swp_seq ?_
 refine sQ (kt:=[0,1]) (kh:=[]) (q:=True/\True) (st':=ASt.mk [(0,aInts l),(1,.fn 0)] [] 8) ⟨tv,tv⟩ ?_
 refine swp_seq (swp_seq ?_)
 refine sQ (kt:=[0,1,7,8]) (kh:=[]) (q:=tn 3) (st':=ASt.mk [(0,aInts l),(1,.fn 0),(7,iv (↑(l.length):Int)),(8,iv 0)] [] 32) (tp 3) ?_
 refine swp_block ?_
 refine swp_loopA (z136_1 l p) (eQ hE [] [] [0,1,7] [] (((zT (aInts l))/\(zT (AV.fn 0))/\(zT (iv (↑(l.length):Int)))/\(zN (iv 0) (iv (↑0:Int)))/\True)/\True/\T2) ⟨⟨⟨rfl,rfl⟩,⟨rfl,rfl⟩,⟨rfl,rfl⟩,⟨(congrArg iv (o0 E0 hfn hp)),rfl⟩,tv⟩,tv,rfl,rfl⟩) (o1 E0 hfn hp) (fun (x0:Nat) hx0 => ?_)
 refine swp_seq ?_
 refine sQ (kt:=[0,1,7,8,9]) (kh:=[]) (q:=True/\True) (st':=ASt.mk [(0,aInts l),(1,.fn 0),(7,iv (↑(l.length):Int)),(8,iv (x0:Int)),(9,bv (decide ((x0:Int) < (↑(l.length):Int))))] [] 10040) ⟨tv,tv⟩ ?_
 refine swp_seq ?_
 refine swp_cond (decide ((x0:Int) < (↑(l.length):Int))) (by kernel_rfl) (fun h1 => ?_) (fun h1 => ?_)
 ·refine swp_skip (swp_seq (swp_block (swp_seq ?_)))
  refine sQ (kt:=[0,1,7,8,5]) (kh:=[]) (q:=tn 2) (st':=ASt.mk [(0,aInts l),(1,.fn 0),(7,iv (↑(l.length):Int)),(8,iv (x0:Int)),(5,iv (x0:Int))] [] 10056) (tp 2) ?_
  refine swp_seq ?_
  refine sC (cs:=[(5,CallSpec.eq (c136 l p x0) [true])]) (kt:=[0,1,7,8,5,16]) (kh:=[]) (q:=True/\True/\True/\(0<=(x0:Int)/\(x0:Int) < (↑(l.length):Int))/\True/\((zE (iv (l.getD x0 0))/\True) /\ ∀ (i2:Value),E0.4 0 i2->FnOK Try.prog E0 i2 [iv (l.getD x0 0)] (bv (p (l.getD x0 0))))/\True) (st':=ASt.mk [(0,aInts l),(1,.fn 0),(7,iv (↑(l.length):Int)),(8,iv (x0:Int)),(5,iv (x0:Int)),(16,bv (p (l.getD x0 0)))] [] 10104) ⟨tv,tv,tv,⟨(o2 E0 hfn hp x0 hx0 h1),(o3 E0 hfn hp x0 hx0 h1)⟩,tv,⟨⟨rfl,tv⟩,(fun i2=>(fun h3=>(o4 E0 hfn hp x0 hx0 h1 i2 h3)))⟩,tv⟩ ?_
  refine swp_cond (p (l.getD x0 0)) (by kernel_rfl) (fun h4 => ?_) (fun h4 => ?_)
  ·refine swp_seq ?_
   refine sQ (kt:=[4]) (kh:=[]) (q:=tn 2) (st':=ASt.mk [(4,iv (x0:Int))] [] 10120) (tp 2) ?_
   refine swp_ret ?_
   exact rQ [] ((True/\True)/\(zN (iv (x0:Int)) (iv (idxF l p)))/\T3) ⟨⟨tv,tv⟩,⟨(congrArg iv (o5 E0 hfn hp x0 hx0 h1 h4)),rfl⟩,rfl,rfl,rfl⟩
  ·refine swp_skip ?_
   refine sQ (kt:=[0,1,7,8]) (kh:=[]) (q:=inI ((x0:Int) + 1)/\True/\True) (st':=ASt.mk [(0,aInts l),(1,.fn 0),(7,iv (↑(l.length):Int)),(8,iv ((x0:Int) + 1))] [] 10120) ⟨(o6 E0 hfn hp x0 hx0 h1 h4),tv,tv⟩ ?_
   exact loop_next (z136_1 l p) x0 (eQ hE [] [] [0,1,7] [] (((zT (aInts l))/\(zT (AV.fn 0))/\(zT (iv (↑(l.length):Int)))/\(zN (iv ((x0:Int) + 1)) (iv (↑(x0 + 1):Int)))/\True)/\True/\T2) ⟨⟨⟨rfl,rfl⟩,⟨rfl,rfl⟩,⟨rfl,rfl⟩,⟨(congrArg iv (o7 E0 hfn hp x0 hx0 h1 h4)),rfl⟩,tv⟩,tv,rfl,rfl⟩) (o8 E0 hfn hp x0 hx0 h1 h4) (o9 E0 hfn hp x0 hx0 h1 h4)
 ·refine swp_exit (swp_seq ?_)
  refine sQ (kt:=[4]) (kh:=[]) (q:=True/\True) (st':=ASt.mk [(4,iv (-1))] [] 10048) ⟨tv,tv⟩ ?_
  refine swp_ret ?_
  exact rQ [] ((True/\True)/\(zN (iv (-1)) (iv (idxF l p)))/\T3) ⟨⟨tv,tv⟩,⟨(congrArg iv (o10 E0 hfn hp x0 hx0 h1)),rfl⟩,rfl,rfl,rfl⟩
theorem t136 (l:List Int) (p:Int->Bool):Triple Try.prog 136 (s136 l p):=by
 apply w136
 case o4=>intro E0 hfn hp x hx hl u hu; exact hfn u hu ⟨_,Go.Ab.getD_mem l 0 (by simpa using hl)⟩
 case o5=>intro E0 hfn hp x hx hl h; simp only [decide_eq_true_eq] at hl; exact (idxF_found (by omega) hx.2 h).symm
 case o8=>intro E0 hfn hp x hx hl h; simp only [decide_eq_true_eq] at hl; exact ⟨by omega,lt_succ_cases hx.2 h⟩
 case o10=>intro E0 hfn hp x hx hl; simp only [decide_eq_false_iff_not] at hl; exact (idxF_none (fun j hj=>hx.2 j (by omega))).symm
 all_goals ((repeat intro _) <;> (try simp only [v0,v1,v2,v3,v4,v5,v6,v7,v8,v9,inI,fits,Go.Sh.small] at *) <;> first | (exact rfl) | omega | exact vz | (simp_all; done) | (simp_all; omega))
theorem w113 (l:List Int) (p:Int->Bool)
  (o0:∀ (E0:Env),fnokOf Try.prog 0 (fun (w:{ n:Int // n ∈ l })=>[iv (Subtype.val w)]) (fun (w:{ n:Int // n ∈ l })=>bv (p (Subtype.val w))) E0->l.length<=1125899906842624 -> ∀ (i0:Env) (i1:List Value),Env.le E0 i0->i1.length=2->(∀ (k:Nat),Rel i0 true (List.getD [aInts l,AV.fn 0] k AV.any) (i1.getD k undef))->fnokOf Try.prog 0 (fun (w:{ n:Int // n ∈ l })=>[iv (Subtype.val w)]) (fun (w:{ n:Int // n ∈ l })=>bv (p (Subtype.val w))) (Env.mk i0.1 i0.2 i0.3 fun (k:Nat) (u:Value) => ∃ (i:Nat),[aInts l,AV.fn 0][i]? = some (AV.fn k)/\i1[i]? = some u))
  (o1:∀ (E0:Env),fnokOf Try.prog 0 (fun (w:{ n:Int // n ∈ l })=>[iv (Subtype.val w)]) (fun (w:{ n:Int // n ∈ l })=>bv (p (Subtype.val w))) E0->l.length<=1125899906842624->decide (0<=idxF l p)=List.any l p) :
  Triple Try.prog 113 (s113 l p):=by
 refine triple_of Try.func113 rfl Try.call113 T0_ok _ rfl rfl rfl rfl (Nat.le_of_ble_eq_true (by kernel_rfl)) fnokOf_congr ?_
 intro hp C hC hfn hE
 obtain ⟨P,w0,E0,av,hA⟩:=C
 subst hC
 refine swp_seq ?_
 refine sQ (kt:=[0,1]) (kh:=[]) (q:=True/\True) (st':=ASt.mk [(0,aInts l),(1,.fn 0)] [] 8) ⟨tv,tv⟩ ?_
 refine swp_seq ?_
 refine sC (cs:=[(2,CallSpec.eq (c113 l p) [true,true])]) (kt:=[4]) (kh:=[]) (q:=True/\True/\((zE (aInts l)/\zE (AV.fn 0)/\True)/\Triple Try.prog 136 (c113 l p)/\l.length<=1125899906842624/\True /\ ∀ (i0:Env) (i1:List Value),Env.le E0 i0->i1.length=2->(∀ (k:Nat),Rel i0 true (List.getD [aInts l,AV.fn 0] k AV.any) (i1.getD k undef))->fnokOf Try.prog 0 (fun (w:{ n:Int // n ∈ l })=>[iv (Subtype.val w)]) (fun (w:{ n:Int // n ∈ l })=>bv (p (Subtype.val w))) (Env.mk i0.1 i0.2 i0.3 fun (k:Nat) (u:Value) => ∃ (i:Nat),[aInts l,AV.fn 0][i]? = some (AV.fn k)/\i1[i]? = some u))/\tn 2) (st':=ASt.mk [(4,bv (decide (0<=idxF l p)))] [] 48) ⟨tv,tv,⟨⟨rfl,rfl,tv⟩,(t136 _ _),hp,tv,(fun i0=>(fun i1=>(fun h2=>(fun h3=>(fun h4=>(o0 E0 hfn hp i0 i1 h2 h3 h4))))))⟩,tp 2⟩ ?_
 refine swp_ret ?_
 exact rQ [] ((True/\True)/\(zN (bv (decide (0<=idxF l p))) (bv (List.any l p)))/\T3) ⟨⟨tv,tv⟩,⟨(congrArg bv (o1 E0 hfn hp)),rfl⟩,rfl,rfl,rfl⟩
theorem t113 (l:List Int) (p:Int->Bool):Triple Try.prog 113 (s113 l p):=by
 apply w113
 case o0 =>
  intro E0 hfn hp E us le hl hr
  refine fnok_pass 1 (fun j' h => ?_) rfl hfn E us le hl hr
  match j',h with
  | 0,h=>cases h
  | 1,_=>rfl
  | n + 2,h=>simp at h
 case o1=>(repeat intro _); exact idxF_any _ _
abbrev z71_1 (r:Run) (x61:Nat):LoopAnn:=Hint.ann (h71d r x61) [(1,AV.ptr 0 []),(76,AV.sl 3 r.found.length fun (i:Nat)=>cFnd (fnd r i)),(77,iv (↑(r.found.length):Int)),(78,iv (x61:Int)),(8,AV.ptr 20296 []),(109,aInts (fnd r x61).frm),(110,iv (↑((fnd r x61).frm.length):Int))] [(0,OB.cells 25 (cRun r)),(20296,OB.cells 32 (cFnd (fnd r x61)))] 30552
abbrev z71_2 (r:Run) (x33:Nat):LoopAnn:=Hint.ann (h71b r x33) [(1,AV.ptr 0 []),(35,AV.sl 2 r.machines.length fun (i:Nat)=>cMach (mach r i)),(36,iv (↑(r.machines.length):Int)),(37,iv (x33:Int)),(54,aSpans (mach r x33).changes),(55,iv (↑((mach r x33).changes.length):Int))] [(0,OB.cells 25 (cRun r))] 20400
abbrev z71_3 (r:Run):LoopAnn:=Hint.ann (h71a r) [(1,AV.ptr 0 []),(35,AV.sl 2 r.machines.length fun (i:Nat)=>cMach (mach r i)),(36,iv (↑(r.machines.length):Int))] [(0,OB.cells 25 (cRun r))] 10232
abbrev z71_4 (r:Run):LoopAnn:=Hint.ann (h71c r) [(1,AV.ptr 0 []),(76,AV.sl 3 r.found.length fun (i:Nat)=>cFnd (fnd r i)),(77,iv (↑(r.found.length):Int))] [(0,OB.cells 25 (cRun r))] 20272
abbrev q71_1 (r:Run) (C:Prop):Prop:=fits r->(bif bif bif !within r.plates 1 3 then true else !within r.last 1 30 then true else !within (↑(r.machines.length):Int) 1 3 then true else decide (6 < (↑(r.found.length):Int)))=false->C
abbrev q71_2 (r:Run) (C:Nat->Prop):Prop:=q71_1 r (∀ (x33:Nat),(x33<=r.machines.length /\ ∀ (j:Nat),j < x33->okMachA r (mach r j)=true)->decide ((x33:Int) < (↑(r.machines.length):Int))=true->C x33)
abbrev q71_3 (r:Run) (C:Nat->Prop):Prop:=q71_2 r fun x33=>(bif !decide ((↑((mach r x33).changes.length):Int)=r.plates) then true else !within (mach r x33).rate 0 9)=false->C x33
abbrev q71_4 (r:Run) (C:Nat->Nat->Prop):Prop:=q71_3 r fun x33 => ∀ (x46:Nat),(x46<=(mach r x33).changes.length /\ ∀ (j:Nat),j < x46->isSpan (chg (mach r x33) j) r.last=true)->C x33 x46
abbrev q71_5 (r:Run) (C:Nat->Nat->Prop):Prop:=q71_4 r fun x33 x46=>decide ((x46:Int) < (↑((mach r x33).changes.length):Int))=true->C x33 x46
abbrev q71_6 (r:Run) (C:Nat->Nat->Prop):Prop:=q71_5 r fun x33 x46=>(bif !within ((mach r x33).changes.getD x46 default).lo 0 ((mach r x33).changes.getD x46 default).hi then true else decide (r.last < ((mach r x33).changes.getD x46 default).hi))=false->C x33 x46
abbrev q71_7 (r:Run) (C:Nat->Nat->Prop):Prop:=q71_4 r fun x33 x46=>decide ((x46:Int) < (↑((mach r x33).changes.length):Int))=false->C x33 x46
abbrev q71_8 (r:Run) (C:Nat->Prop):Prop:=q71_1 r (∀ (x33:Nat),(x33<=r.machines.length /\ ∀ (j:Nat),j < x33->okMachA r (mach r j)=true)->decide ((x33:Int) < (↑(r.machines.length):Int))=false->C x33)
abbrev q71_9 (r:Run) (C:Nat->Nat->Prop):Prop:=q71_8 r fun x33 => ∀ (x61:Nat),(x61<=r.found.length /\ ∀ (j:Nat),j < x61->okFndA r (fnd r j)=true)->decide ((x61:Int) < (↑(r.found.length):Int))=true->C x33 x61
abbrev q71_10 (r:Run) (C:Nat->Nat->Prop):Prop:=q71_9 r fun x33 x61=>(bif bif bif !within (fnd r x61).minute 0 (r.last - 1) then true else !decide ((↑((fnd r x61).new.length):Int)=r.plates) then true else decide ((↑((fnd r x61).frm.length):Int)=0) then true else List.any (fnd r x61).new badNew)=false->C x33 x61
abbrev q71_11 (r:Run) (C:Nat->Nat->Nat->Prop):Prop:=q71_10 r fun x33 x61 => ∀ (x99:Nat),(x99<=(fnd r x61).frm.length /\ ∀ (j:Nat),j < x99->risAt (fnd r x61).frm 0 ((↑(r.machines.length):Int) - 1) j=true)->C x33 x61 x99
abbrev q71_12 (r:Run) (C:Nat->Nat->Nat->Prop):Prop:=q71_11 r fun x33 x61 x99=>decide ((x99:Int) < (↑((fnd r x61).frm.length):Int))=true->C x33 x61 x99
abbrev q71_13 (r:Run) (C:Nat->Nat->Nat->Prop):Prop:=q71_12 r fun x33 x61 x99=>(!!within ((fnd r x61).frm.getD x99 0) 0 ((↑(r.machines.length):Int) - 1) && decide (0 < (x99:Int)))=true->C x33 x61 x99
abbrev q71_14 (r:Run) (C:Nat->Nat->Nat->Prop):Prop:=q71_12 r fun x33 x61 x99=>(bif !within ((fnd r x61).frm.getD x99 0) 0 ((↑(r.machines.length):Int) - 1) then true else bif decide (0 < (x99:Int)) then decide ((fnd r x61).frm.getD x99 0<=(fnd r x61).frm.getD ((x99:Int) - 1).toNat 0) else false)=false->C x33 x61 x99
abbrev q71_15 (r:Run) (C:Nat->Nat->Nat->Prop):Prop:=q71_11 r fun x33 x61 x99=>decide ((x99:Int) < (↑((fnd r x61).frm.length):Int))=false->C x33 x61 x99
theorem w71 (r:Run)
 (o0:fits r->(!within r.plates 1 3)=false->(!!within r.plates 1 3)=true)
 (o1:fits r->(bif !within r.plates 1 3 then true else !within r.last 1 30)=false->(!bif !within r.plates 1 3 then true else !within r.last 1 30)=true)
 (o2:fits r->(bif bif !within r.plates 1 3 then true else !within r.last 1 30 then true else !within (↑(r.machines.length):Int) 1 3)=false->(!bif bif !within r.plates 1 3 then true else !within r.last 1 30 then true else !within (↑(r.machines.length):Int) 1 3)=true)
 (o3:fits r->(bif bif bif !within r.plates 1 3 then true else !within r.last 1 30 then true else !within (↑(r.machines.length):Int) 1 3 then true else decide (6 < (↑(r.found.length):Int)))=true->60=check r)
 (o4:q71_1 r (0=(↑0:Int)))
 (o5:q71_1 r (0<=r.machines.length /\ ∀ (j:Nat),j < 0->okMachA r (mach r j)=true))
 (o6:q71_2 r fun x33=>0<=(x33:Int))
 (o7:q71_2 r fun x33=>(x33:Int) < (↑(r.machines.length):Int))
 (o8:q71_2 r fun x33=>(!decide ((↑((mach r x33).changes.length):Int)=r.plates))=false->(!!decide ((↑((mach r x33).changes.length):Int)=r.plates))=true)
 (o9:q71_2 r fun x33=>(bif !decide ((↑((mach r x33).changes.length):Int)=r.plates) then true else !within (mach r x33).rate 0 9)=true->60=check r)
 (o10:q71_3 r fun x33=>0=(↑0:Int))
 (o11:q71_3 r fun x33=>0<=(mach r x33).changes.length /\ ∀ (j:Nat),j < 0->isSpan (chg (mach r x33) j) r.last=true)
 (o12:q71_5 r fun x33 x46=>0<=(x46:Int))
 (o13:q71_5 r fun x33 x46=>(x46:Int) < (↑((mach r x33).changes.length):Int))
 (o14:q71_5 r fun x33 x46=>(!within ((mach r x33).changes.getD x46 default).lo 0 ((mach r x33).changes.getD x46 default).hi)=false->(!!within ((mach r x33).changes.getD x46 default).lo 0 ((mach r x33).changes.getD x46 default).hi)=true)
 (o15:q71_5 r fun x33 x46=>(bif !within ((mach r x33).changes.getD x46 default).lo 0 ((mach r x33).changes.getD x46 default).hi then true else decide (r.last < ((mach r x33).changes.getD x46 default).hi))=true->60=check r)
 (o16:q71_6 r fun x33 x46=>inI ((x46:Int) + 1))
 (o17:q71_6 r fun x33 x46=>(x46:Int) + 1=(↑(x46 + 1):Int))
 (o18:q71_6 r fun x33 x46=>x46 + 1<=(mach r x33).changes.length /\ ∀ (j:Nat),j < x46 + 1->isSpan (chg (mach r x33) j) r.last=true)
 (o19:q71_6 r fun x33 x46=>(mach r x33).changes.length - (x46 + 1) < (mach r x33).changes.length - x46)
 (o20:q71_7 r fun x33 x46=>inI ((x33:Int) + 1))
 (o21:q71_7 r fun x33 x46=>(x33:Int) + 1=(↑(x33 + 1):Int))
 (o22:q71_7 r fun x33 x46=>x33 + 1<=r.machines.length /\ ∀ (j:Nat),j < x33 + 1->okMachA r (mach r j)=true)
 (o23:q71_7 r fun x33 x46=>r.machines.length - (x33 + 1) < r.machines.length - x33)
 (o24:q71_8 r fun x33=>0=(↑0:Int))
 (o25:q71_8 r fun x33=>0<=r.found.length /\ ∀ (j:Nat),j < 0->okFndA r (fnd r j)=true)
 (o26:q71_9 r fun x33 x61=>0<=(x61:Int))
 (o27:q71_9 r fun x33 x61=>(x61:Int) < (↑(r.found.length):Int))
 (o28:q71_9 r fun x33 x61=>inI (r.last - 1))
 (o29:q71_9 r fun x33 x61=>(!within (fnd r x61).minute 0 (r.last - 1))=false->(!!within (fnd r x61).minute 0 (r.last - 1))=true)
 (o30:q71_9 r fun x33 x61=>(bif !within (fnd r x61).minute 0 (r.last - 1) then true else !decide ((↑((fnd r x61).new.length):Int)=r.plates))=false->(!bif !within (fnd r x61).minute 0 (r.last - 1) then true else !decide ((↑((fnd r x61).new.length):Int)=r.plates))=true)
 (o31:q71_9 r fun x33 x61=>(!bif bif !within (fnd r x61).minute 0 (r.last - 1) then true else !decide ((↑((fnd r x61).new.length):Int)=r.plates) then true else decide ((↑((fnd r x61).frm.length):Int)=0))=true->(fnd r x61).new.length<=1125899906842624)
 (o32:∀ (E0:Env),fits r->(bif bif bif !within r.plates 1 3 then true else !within r.last 1 30 then true else !within (↑(r.machines.length):Int) 1 3 then true else decide (6 < (↑(r.found.length):Int)))=false -> ∀ (x33:Nat),(x33<=r.machines.length /\ ∀ (j:Nat),j < x33->okMachA r (mach r j)=true)->decide ((x33:Int) < (↑(r.machines.length):Int))=false -> ∀ (x61:Nat),(x61<=r.found.length /\ ∀ (j:Nat),j < x61->okFndA r (fnd r j)=true)->decide ((x61:Int) < (↑(r.found.length):Int))=true->(!bif bif !within (fnd r x61).minute 0 (r.last - 1) then true else !decide ((↑((fnd r x61).new.length):Int)=r.plates) then true else decide ((↑((fnd r x61).frm.length):Int)=0))=true -> ∀ (i91:Env) (i92:List Value),Env.le E0 i91->i92.length=2->(∀ (k:Nat),Rel i91 true (List.getD [aInts (fnd r x61).new,AV.clo 114 []] k AV.any) (i92.getD k undef))->fnokOf Try.prog 0 (fun (w:{ n:Int // n ∈ (fnd r x61).new })=>[iv (Subtype.val w)]) (fun (w:{ n:Int // n ∈ (fnd r x61).new })=>bv (badNew (Subtype.val w))) (Env.mk i91.1 i91.2 i91.3 fun (k:Nat) (u:Value) => ∃ (i:Nat),[aInts (fnd r x61).new,AV.fn 0][i]? = some (AV.fn k)/\i92[i]? = some u))
 (o33:q71_9 r fun x33 x61=>(bif bif !within (fnd r x61).minute 0 (r.last - 1) then true else !decide ((↑((fnd r x61).new.length):Int)=r.plates) then true else decide ((↑((fnd r x61).frm.length):Int)=0))=false->(!bif bif !within (fnd r x61).minute 0 (r.last - 1) then true else !decide ((↑((fnd r x61).new.length):Int)=r.plates) then true else decide ((↑((fnd r x61).frm.length):Int)=0))=true)
 (o34:q71_9 r fun x33 x61=>(bif bif bif !within (fnd r x61).minute 0 (r.last - 1) then true else !decide ((↑((fnd r x61).new.length):Int)=r.plates) then true else decide ((↑((fnd r x61).frm.length):Int)=0) then true else List.any (fnd r x61).new badNew)=true->60=check r)
 (o35:q71_10 r fun x33 x61=>0=(↑0:Int))
 (o36:q71_10 r fun x33 x61=>0<=(fnd r x61).frm.length /\ ∀ (j:Nat),j < 0->risAt (fnd r x61).frm 0 ((↑(r.machines.length):Int) - 1) j=true)
 (o37:q71_12 r fun x33 x61 x99=>0<=(x99:Int))
 (o38:q71_12 r fun x33 x61 x99=>(x99:Int) < (↑((fnd r x61).frm.length):Int))
 (o39:q71_12 r fun x33 x61 x99=>inI ((↑(r.machines.length):Int) - 1))
 (o40:q71_13 r fun x33 x61 x99=>inI ((x99:Int) - 1))
 (o41:q71_13 r fun x33 x61 x99=>0<=(x99:Int) - 1)
 (o42:q71_13 r fun x33 x61 x99=>(x99:Int) - 1 < (↑((fnd r x61).frm.length):Int))
 (o43:q71_12 r fun x33 x61 x99=>(!!within ((fnd r x61).frm.getD x99 0) 0 ((↑(r.machines.length):Int) - 1))=true->decide (0 < (x99:Int))=true->(!!within ((fnd r x61).frm.getD x99 0) 0 ((↑(r.machines.length):Int) - 1) && decide (0 < (x99:Int)))=true)
 (o44:q71_12 r fun x33 x61 x99=>(!within ((fnd r x61).frm.getD x99 0) 0 ((↑(r.machines.length):Int) - 1))=false->(!!within ((fnd r x61).frm.getD x99 0) 0 ((↑(r.machines.length):Int) - 1))=true)
 (o45:q71_12 r fun x33 x61 x99=>(bif !within ((fnd r x61).frm.getD x99 0) 0 ((↑(r.machines.length):Int) - 1) then true else bif decide (0 < (x99:Int)) then decide ((fnd r x61).frm.getD x99 0<=(fnd r x61).frm.getD ((x99:Int) - 1).toNat 0) else false)=true->60=check r)
 (o46:q71_14 r fun x33 x61 x99=>inI ((x99:Int) + 1))
 (o47:q71_14 r fun x33 x61 x99=>(x99:Int) + 1=(↑(x99 + 1):Int))
 (o48:q71_14 r fun x33 x61 x99=>x99 + 1<=(fnd r x61).frm.length /\ ∀ (j:Nat),j < x99 + 1->risAt (fnd r x61).frm 0 ((↑(r.machines.length):Int) - 1) j=true)
 (o49:q71_14 r fun x33 x61 x99=>(fnd r x61).frm.length - (x99 + 1) < (fnd r x61).frm.length - x99)
 (o50:q71_15 r fun x33 x61 x99=>inI ((x61:Int) + 1))
 (o51:q71_15 r fun x33 x61 x99=>(x61:Int) + 1=(↑(x61 + 1):Int))
 (o52:q71_15 r fun x33 x61 x99=>x61 + 1<=r.found.length /\ ∀ (j:Nat),j < x61 + 1->okFndA r (fnd r j)=true)
 (o53:q71_15 r fun x33 x61 x99=>r.found.length - (x61 + 1) < r.found.length - x61)
 (o54:q71_8 r fun x33 => ∀ (x61:Nat),(x61<=r.found.length /\ ∀ (j:Nat),j < x61->okFndA r (fnd r j)=true)->decide ((x61:Int) < (↑(r.found.length):Int))=false->0=check r) :
  Triple Try.prog 71 (s71 r):=by
 refine triple_of Try.func71 rfl Try.call71 T0_ok _ rfl rfl rfl rfl (Nat.le_of_ble_eq_true (by kernel_rfl)) (fun _ _ _ _ h=>h) ?_
 intro hp C hC _ hE
 obtain ⟨P,w0,E0,av,hA⟩:=C
 subst hC
 refine swp_seq ?_
 refine sQ (kt:=[1]) (kh:=[0]) (q:=tn 2) (st':=ASt.mk [(1,.ptr 0 [])] [(0,.cells 25 (cRun r))] 16) (tp 2) ?_
 refine swp_seq (swp_seq ?_)
 refine sC (cs:=[(2,CallSpec.eq (s112 r.plates 1 3) [true,true,true]),(7,CallSpec.eq (s112 r.last 1 30) [true,true,true]),(14,CallSpec.eq (s112 (↑(r.machines.length):Int) 1 3) [true,true,true])]) (kt:=[1,33]) (kh:=[0]) (q:=True/\True/\((zE (iv r.plates)/\iv 1=iv 1/\iv 3=iv 3/\True)/\Triple Try.prog 112 (s112 r.plates 1 3)/\True/\True /\ ∀ (i0:Env),True)/\True/\True/\((!!within r.plates 1 3)=true->(True/\True)/\True)/\((!!within r.plates 1 3)=true->(((!!within r.plates 1 3)=true->(!!within r.plates 1 3)=true)/\True)/\True)/\((!!within r.plates 1 3)=true->(True/\((!!within r.plates 1 3)=true->(!!within r.plates 1 3)=true)/\True/\True/\True)/\(zE (iv r.last)/\iv 1=iv 1/\iv 30=iv 30/\True)/\Triple Try.prog 112 (s112 r.last 1 30)/\True/\True /\ ∀ (i6:Env),True)/\((!!within r.plates 1 3)=true->(((!!within r.plates 1 3)=true->(!!within r.plates 1 3)=true)/\True)/\True)/\(((!within r.plates 1 3)=true->True)/\((!within r.plates 1 3)=false->(!!within r.plates 1 3)=true))/\True/\((!bif !within r.plates 1 3 then true else !within r.last 1 30)=true->(True/\True)/\True)/\((!bif !within r.plates 1 3 then true else !within r.last 1 30)=true->(((!bif !within r.plates 1 3 then true else !within r.last 1 30)=true->(!bif !within r.plates 1 3 then true else !within r.last 1 30)=true)/\True)/\True)/\((!bif !within r.plates 1 3 then true else !within r.last 1 30)=true->(((!bif !within r.plates 1 3 then true else !within r.last 1 30)=true->(!bif !within r.plates 1 3 then true else !within r.last 1 30)=true)/\True)/\True)/\((!bif !within r.plates 1 3 then true else !within r.last 1 30)=true->(True/\((!bif !within r.plates 1 3 then true else !within r.last 1 30)=true->(!bif !within r.plates 1 3 then true else !within r.last 1 30)=true)/\True/\True/\True)/\(zE (iv (↑(r.machines.length):Int))/\iv 1=iv 1/\iv 3=iv 3/\True)/\Triple Try.prog 112 (s112 (↑(r.machines.length):Int) 1 3)/\True/\True /\ ∀ (i18:Env),True)/\((!bif !within r.plates 1 3 then true else !within r.last 1 30)=true->(((!bif !within r.plates 1 3 then true else !within r.last 1 30)=true->(!bif !within r.plates 1 3 then true else !within r.last 1 30)=true)/\True)/\True)/\(((bif !within r.plates 1 3 then true else !within r.last 1 30)=true->True)/\((bif !within r.plates 1 3 then true else !within r.last 1 30)=false->(!bif !within r.plates 1 3 then true else !within r.last 1 30)=true))/\True/\((!bif bif !within r.plates 1 3 then true else !within r.last 1 30 then true else !within (↑(r.machines.length):Int) 1 3)=true->(True/\True)/\True)/\((!bif bif !within r.plates 1 3 then true else !within r.last 1 30 then true else !within (↑(r.machines.length):Int) 1 3)=true->(((!bif bif !within r.plates 1 3 then true else !within r.last 1 30 then true else !within (↑(r.machines.length):Int) 1 3)=true->(!bif bif !within r.plates 1 3 then true else !within r.last 1 30 then true else !within (↑(r.machines.length):Int) 1 3)=true)/\True)/\True)/\((!bif bif !within r.plates 1 3 then true else !within r.last 1 30 then true else !within (↑(r.machines.length):Int) 1 3)=true->(((!bif bif !within r.plates 1 3 then true else !within r.last 1 30 then true else !within (↑(r.machines.length):Int) 1 3)=true->(!bif bif !within r.plates 1 3 then true else !within r.last 1 30 then true else !within (↑(r.machines.length):Int) 1 3)=true)/\True)/\True)/\((!bif bif !within r.plates 1 3 then true else !within r.last 1 30 then true else !within (↑(r.machines.length):Int) 1 3)=true->(((!bif bif !within r.plates 1 3 then true else !within r.last 1 30 then true else !within (↑(r.machines.length):Int) 1 3)=true->(!bif bif !within r.plates 1 3 then true else !within r.last 1 30 then true else !within (↑(r.machines.length):Int) 1 3)=true)/\True/\True)/\True)/\(((bif bif !within r.plates 1 3 then true else !within r.last 1 30 then true else !within (↑(r.machines.length):Int) 1 3)=true->True)/\((bif bif !within r.plates 1 3 then true else !within r.last 1 30 then true else !within (↑(r.machines.length):Int) 1 3)=false->(!bif bif !within r.plates 1 3 then true else !within r.last 1 30 then true else !within (↑(r.machines.length):Int) 1 3)=true))/\True) (st':=ASt.mk [(1,.ptr 0 []),(33,bv (bif bif bif !within r.plates 1 3 then true else !within r.last 1 30 then true else !within (↑(r.machines.length):Int) 1 3 then true else decide (6 < (↑(r.found.length):Int))))] [(0,.cells 25 (cRun r))] 200) ⟨tv,tv,⟨⟨rfl,rfl,rfl,tv⟩,(t112 r.plates (1) (3)),tv,tv,(fun i0=>tv)⟩,tv,tv,(fun h1=>⟨⟨tv,tv⟩,tv⟩),(fun h2=>⟨⟨(fun h3=>h2),tv⟩,tv⟩),(fun h4=>⟨⟨tv,(fun h5=>h4),tv,tv,tv⟩,⟨rfl,rfl,rfl,tv⟩,(t112 r.last (1) (30)),tv,tv,(fun i6=>tv)⟩),(fun h7=>⟨⟨(fun h8=>h7),tv⟩,tv⟩),⟨(fun h9=>tv),(fun h10=>(o0 hp h10))⟩,tv,(fun h11=>⟨⟨tv,tv⟩,tv⟩),(fun h12=>⟨⟨(fun h13=>h12),tv⟩,tv⟩),(fun h14=>⟨⟨(fun h15=>h14),tv⟩,tv⟩),(fun h16=>⟨⟨tv,(fun h17=>h16),tv,tv,tv⟩,⟨rfl,rfl,rfl,tv⟩,(t112 ((↑(r.machines.length):Int)) (1) (3)),tv,tv,(fun i18=>tv)⟩),(fun h19=>⟨⟨(fun h20=>h19),tv⟩,tv⟩),⟨(fun h21=>tv),(fun h22=>(o1 hp h22))⟩,tv,(fun h23=>⟨⟨tv,tv⟩,tv⟩),(fun h24=>⟨⟨(fun h25=>h24),tv⟩,tv⟩),(fun h26=>⟨⟨(fun h27=>h26),tv⟩,tv⟩),(fun h28=>⟨⟨(fun h29=>h28),tv,tv⟩,tv⟩),⟨(fun h30=>tv),(fun h31=>(o2 hp h31))⟩,tv⟩ ?_
 refine swp_cond (bif bif bif !within r.plates 1 3 then true else !within r.last 1 30 then true else !within (↑(r.machines.length):Int) 1 3 then true else decide (6 < (↑(r.found.length):Int))) (by kernel_rfl) (fun h32 => ?_) (fun h32 => ?_)
 ·refine swp_seq ?_
  refine sQ (kt:=[2]) (kh:=[]) (q:=True/\True) (st':=ASt.mk [(2,iv 60)] [] 208) ⟨tv,tv⟩ ?_
  refine swp_ret ?_
  exact rQ [] ((True/\True)/\(zN (iv 60) (iv (check r)))/\T3) ⟨⟨tv,tv⟩,⟨(congrArg iv (o3 hp h32)),rfl⟩,rfl,rfl,rfl⟩
 ·refine swp_skip (swp_seq (swp_seq ?_))
  refine sQ (kt:=[1,35,36,37]) (kh:=[0]) (q:=tn 4) (st':=ASt.mk [(1,.ptr 0 []),(35,.sl 2 r.machines.length fun (i:Nat)=>cMach (mach r i)),(36,iv (↑(r.machines.length):Int)),(37,iv 0)] [(0,.cells 25 (cRun r))] 232) (tp 4) ?_
  refine swp_block ?_
  refine swp_loopA (z71_3 r) (eQ hE [] [(0,.same 0)] [35,36] [0] (((zP 0)/\(zT (AV.sl 2 r.machines.length fun (i:Nat)=>cMach (mach r i)))/\(zT (iv (↑(r.machines.length):Int)))/\(zN (iv 0) (iv (↑0:Int)))/\True)/\((zT (OB.cells 25 (cRun r)))/\True)/\T2) ⟨⟨⟨rfl,rfl⟩,⟨rfl,rfl⟩,⟨rfl,rfl⟩,⟨(congrArg iv (o4 hp h32)),rfl⟩,tv⟩,⟨⟨rfl,rfl⟩,tv⟩,rfl,rfl⟩) (o5 hp h32) (fun (x33:Nat) hx33 => ?_)
  refine swp_seq ?_
  refine sQ (kt:=[1,35,36,37,38]) (kh:=[0]) (q:=True/\True) (st':=ASt.mk [(1,.ptr 0 []),(35,.sl 2 r.machines.length fun (i:Nat)=>cMach (mach r i)),(36,iv (↑(r.machines.length):Int)),(37,iv (x33:Int)),(38,bv (decide ((x33:Int) < (↑(r.machines.length):Int))))] [(0,.cells 25 (cRun r))] 10240) ⟨tv,tv⟩ ?_
  refine swp_seq ?_
  refine swp_cond (decide ((x33:Int) < (↑(r.machines.length):Int))) (by kernel_rfl) (fun h34 => ?_) (fun h34 => ?_)
  ·refine swp_skip (swp_seq (swp_block (swp_seq ?_)))
   refine sQ (kt:=[1,35,36,37,4]) (kh:=[0,10256]) (q:=(0<=(x33:Int)/\(x33:Int) < (↑(r.machines.length):Int))/\tn 3) (st':=ASt.mk [(1,.ptr 0 []),(35,.sl 2 r.machines.length fun (i:Nat)=>cMach (mach r i)),(36,iv (↑(r.machines.length):Int)),(37,iv (x33:Int)),(4,.ptr 10256 [])] [(0,.cells 25 (cRun r)),(10256,.cells 42 (cMach (mach r x33)))] 10272) ⟨⟨(o6 hp h32 x33 hx33 h34),(o7 hp h32 x33 hx33 h34)⟩,tp 3⟩ ?_
   refine swp_seq (swp_seq ?_)
   refine sC (cs:=[(9,CallSpec.eq (s112 (mach r x33).rate 0 9) [true,true,true])]) (kt:=[1,35,36,37,4,52]) (kh:=[0,10256]) (q:=True/\True/\True/\True/\True/\True/\True/\((!!decide ((↑((mach r x33).changes.length):Int)=r.plates))->(True/\True)/\True)/\((!!decide ((↑((mach r x33).changes.length):Int)=r.plates))->(((!!decide ((↑((mach r x33).changes.length):Int)=r.plates))->(!!decide ((↑((mach r x33).changes.length):Int)=r.plates))=true)/\True)/\True)/\((!!decide ((↑((mach r x33).changes.length):Int)=r.plates))->(True/\((!!decide ((↑((mach r x33).changes.length):Int)=r.plates))->(!!decide ((↑((mach r x33).changes.length):Int)=r.plates))=true)/\True/\True/\True)/\(zE (iv (mach r x33).rate)/\iv 0=iv 0/\iv 9=iv 9/\True)/\Triple Try.prog 112 (s112 (mach r x33).rate 0 9)/\True/\True /\ ∀ (i40:Env),True)/\((!!decide ((↑((mach r x33).changes.length):Int)=r.plates))->(((!!decide ((↑((mach r x33).changes.length):Int)=r.plates))->(!!decide ((↑((mach r x33).changes.length):Int)=r.plates))=true)/\True)/\True)/\(((!decide ((↑((mach r x33).changes.length):Int)=r.plates))->True)/\((!decide ((↑((mach r x33).changes.length):Int)=r.plates))=false->(!!decide ((↑((mach r x33).changes.length):Int)=r.plates))=true))/\True) (st':=ASt.mk [(1,.ptr 0 []),(35,.sl 2 r.machines.length fun (i:Nat)=>cMach (mach r i)),(36,iv (↑(r.machines.length):Int)),(37,iv (x33:Int)),(4,.ptr 10256 []),(52,bv (bif !decide ((↑((mach r x33).changes.length):Int)=r.plates) then true else !within (mach r x33).rate 0 9))] [(0,.cells 25 (cRun r)),(10256,.cells 42 (cMach (mach r x33)))] 10368) ⟨tv,tv,tv,tv,tv,tv,tv,(fun h35=>⟨⟨tv,tv⟩,tv⟩),(fun h36=>⟨⟨(fun h37=>h36),tv⟩,tv⟩),(fun h38=>⟨⟨tv,(fun h39=>h38),tv,tv,tv⟩,⟨rfl,rfl,rfl,tv⟩,(t112 (mach r x33).rate (0) (9)),tv,tv,(fun i40=>tv)⟩),(fun h41=>⟨⟨(fun h42=>h41),tv⟩,tv⟩),⟨(fun h43=>tv),(fun h44=>(o8 hp h32 x33 hx33 h34 h44))⟩,tv⟩ ?_
   refine swp_cond (bif !decide ((↑((mach r x33).changes.length):Int)=r.plates) then true else !within (mach r x33).rate 0 9) (by kernel_rfl) (fun h45 => ?_) (fun h45 => ?_)
   ·refine swp_seq ?_
    refine sQ (kt:=[2]) (kh:=[]) (q:=True/\True) (st':=ASt.mk [(2,iv 60)] [] 10376) ⟨tv,tv⟩ ?_
    refine swp_ret ?_
    exact rQ [] ((True/\True)/\(zN (iv 60) (iv (check r)))/\T3) ⟨⟨tv,tv⟩,⟨(congrArg iv (o9 hp h32 x33 hx33 h34 h45)),rfl⟩,rfl,rfl,rfl⟩
   ·refine swp_skip (swp_seq ?_)
    refine sQ (kt:=[1,35,36,37,54,55,56]) (kh:=[0]) (q:=tn 4) (st':=ASt.mk [(1,.ptr 0 []),(35,.sl 2 r.machines.length fun (i:Nat)=>cMach (mach r i)),(36,iv (↑(r.machines.length):Int)),(37,iv (x33:Int)),(54,aSpans (mach r x33).changes),(55,iv (↑((mach r x33).changes.length):Int)),(56,iv 0)] [(0,.cells 25 (cRun r))] 10400) (tp 4) ?_
    refine swp_block ?_
    refine swp_loopA (z71_2 r x33) (eQ hE [] [(0,.same 0)] [35,36,37,54,55] [0] (((zP 0)/\(zT (AV.sl 2 r.machines.length fun (i:Nat)=>cMach (mach r i)))/\(zT (iv (↑(r.machines.length):Int)))/\(zT (iv (x33:Int)))/\(zT (aSpans (mach r x33).changes))/\(zT (iv (↑((mach r x33).changes.length):Int)))/\(zN (iv 0) (iv (↑0:Int)))/\True)/\((zT (OB.cells 25 (cRun r)))/\True)/\T2) ⟨⟨⟨rfl,rfl⟩,⟨rfl,rfl⟩,⟨rfl,rfl⟩,⟨rfl,rfl⟩,⟨rfl,rfl⟩,⟨rfl,rfl⟩,⟨(congrArg iv (o10 hp h32 x33 hx33 h34 h45)),rfl⟩,tv⟩,⟨⟨rfl,rfl⟩,tv⟩,rfl,rfl⟩) (o11 hp h32 x33 hx33 h34 h45) (fun (x46:Nat) hx46 => ?_)
    refine swp_seq ?_
    refine sQ (kt:=[1,35,36,37,54,55,56,57]) (kh:=[0]) (q:=True/\True) (st':=ASt.mk [(1,.ptr 0 []),(35,.sl 2 r.machines.length fun (i:Nat)=>cMach (mach r i)),(36,iv (↑(r.machines.length):Int)),(37,iv (x33:Int)),(54,aSpans (mach r x33).changes),(55,iv (↑((mach r x33).changes.length):Int)),(56,iv (x46:Int)),(57,bv (decide ((x46:Int) < (↑((mach r x33).changes.length):Int))))] [(0,.cells 25 (cRun r))] 20408) ⟨tv,tv⟩ ?_
    refine swp_seq ?_
    refine swp_cond (decide ((x46:Int) < (↑((mach r x33).changes.length):Int))) (by kernel_rfl) (fun h47 => ?_) (fun h47 => ?_)
    ·refine swp_skip (swp_seq (swp_block (swp_seq ?_)))
     refine sQ (kt:=[1,35,36,37,54,55,56,6]) (kh:=[0,20424]) (q:=(0<=(x46:Int)/\(x46:Int) < (↑((mach r x33).changes.length):Int))/\tn 3) (st':=ASt.mk [(1,.ptr 0 []),(35,.sl 2 r.machines.length fun (i:Nat)=>cMach (mach r i)),(36,iv (↑(r.machines.length):Int)),(37,iv (x33:Int)),(54,aSpans (mach r x33).changes),(55,iv (↑((mach r x33).changes.length):Int)),(56,iv (x46:Int)),(6,.ptr 20424 [])] [(0,.cells 25 (cRun r)),(20424,.cells 37 (cSpan ((mach r x33).changes.getD x46 default)))] 20440) ⟨⟨(o12 hp h32 x33 hx33 h34 h45 x46 hx46 h47),(o13 hp h32 x33 hx33 h34 h45 x46 hx46 h47)⟩,tp 3⟩ ?_
     refine swp_seq ?_
     refine sC (cs:=[(4,CallSpec.eq (s112 ((mach r x33).changes.getD x46 default).lo 0 ((mach r x33).changes.getD x46 default).hi) [true,true,true])]) (kt:=[1,35,36,37,54,55,56,72]) (kh:=[0]) (q:=True/\True/\True/\True/\((zE (iv ((mach r x33).changes.getD x46 default).lo)/\iv 0=iv 0/\zE (iv ((mach r x33).changes.getD x46 default).hi)/\True)/\Triple Try.prog 112 (s112 ((mach r x33).changes.getD x46 default).lo 0 ((mach r x33).changes.getD x46 default).hi)/\True/\True /\ ∀ (i48:Env),True)/\True/\True/\((!!within ((mach r x33).changes.getD x46 default).lo 0 ((mach r x33).changes.getD x46 default).hi)=true->(True/\True)/\True)/\((!!within ((mach r x33).changes.getD x46 default).lo 0 ((mach r x33).changes.getD x46 default).hi)=true->(((!!within ((mach r x33).changes.getD x46 default).lo 0 ((mach r x33).changes.getD x46 default).hi)=true->(!!within ((mach r x33).changes.getD x46 default).lo 0 ((mach r x33).changes.getD x46 default).hi)=true)/\True)/\True)/\((!!within ((mach r x33).changes.getD x46 default).lo 0 ((mach r x33).changes.getD x46 default).hi)=true->(True/\True)/\True)/\((!!within ((mach r x33).changes.getD x46 default).lo 0 ((mach r x33).changes.getD x46 default).hi)=true->(((!!within ((mach r x33).changes.getD x46 default).lo 0 ((mach r x33).changes.getD x46 default).hi)=true->(!!within ((mach r x33).changes.getD x46 default).lo 0 ((mach r x33).changes.getD x46 default).hi)=true)/\True)/\True)/\((!!within ((mach r x33).changes.getD x46 default).lo 0 ((mach r x33).changes.getD x46 default).hi)=true->(((!!within ((mach r x33).changes.getD x46 default).lo 0 ((mach r x33).changes.getD x46 default).hi)=true->(!!within ((mach r x33).changes.getD x46 default).lo 0 ((mach r x33).changes.getD x46 default).hi)=true)/\((!!within ((mach r x33).changes.getD x46 default).lo 0 ((mach r x33).changes.getD x46 default).hi)=true->(!!within ((mach r x33).changes.getD x46 default).lo 0 ((mach r x33).changes.getD x46 default).hi)=true)/\True)/\True)/\(((!within ((mach r x33).changes.getD x46 default).lo 0 ((mach r x33).changes.getD x46 default).hi)=true->True)/\((!within ((mach r x33).changes.getD x46 default).lo 0 ((mach r x33).changes.getD x46 default).hi)=false->(!!within ((mach r x33).changes.getD x46 default).lo 0 ((mach r x33).changes.getD x46 default).hi)=true))/\True) (st':=ASt.mk [(1,.ptr 0 []),(35,.sl 2 r.machines.length fun (i:Nat)=>cMach (mach r i)),(36,iv (↑(r.machines.length):Int)),(37,iv (x33:Int)),(54,aSpans (mach r x33).changes),(55,iv (↑((mach r x33).changes.length):Int)),(56,iv (x46:Int)),(72,bv (bif !within ((mach r x33).changes.getD x46 default).lo 0 ((mach r x33).changes.getD x46 default).hi then true else decide (r.last < ((mach r x33).changes.getD x46 default).hi)))] [(0,.cells 25 (cRun r))] 20544) ⟨tv,tv,tv,tv,⟨⟨rfl,rfl,rfl,tv⟩,(t112 ((mach r x33).changes.getD x46 default).lo (0) ((mach r x33).changes.getD x46 default).hi),tv,tv,(fun i48=>tv)⟩,tv,tv,(fun h49=>⟨⟨tv,tv⟩,tv⟩),(fun h50=>⟨⟨(fun h51=>h50),tv⟩,tv⟩),(fun h52=>⟨⟨tv,tv⟩,tv⟩),(fun h53=>⟨⟨(fun h54=>h53),tv⟩,tv⟩),(fun h55=>⟨⟨(fun h56=>h55),(fun h57=>h55),tv⟩,tv⟩),⟨(fun h58=>tv),(fun h59=>(o14 hp h32 x33 hx33 h34 h45 x46 hx46 h47 h59))⟩,tv⟩ ?_
     refine swp_cond (bif !within ((mach r x33).changes.getD x46 default).lo 0 ((mach r x33).changes.getD x46 default).hi then true else decide (r.last < ((mach r x33).changes.getD x46 default).hi)) (by kernel_rfl) (fun h60 => ?_) (fun h60 => ?_)
     ·refine swp_seq ?_
      refine sQ (kt:=[2]) (kh:=[]) (q:=True/\True) (st':=ASt.mk [(2,iv 60)] [] 20552) ⟨tv,tv⟩ ?_
      refine swp_ret ?_
      exact rQ [] ((True/\True)/\(zN (iv 60) (iv (check r)))/\T3) ⟨⟨tv,tv⟩,⟨(congrArg iv (o15 hp h32 x33 hx33 h34 h45 x46 hx46 h47 h60)),rfl⟩,rfl,rfl,rfl⟩
     ·refine swp_skip ?_
      refine sQ (kt:=[1,35,36,37,54,55,56]) (kh:=[0]) (q:=inI ((x46:Int) + 1)/\True/\True) (st':=ASt.mk [(1,.ptr 0 []),(35,.sl 2 r.machines.length fun (i:Nat)=>cMach (mach r i)),(36,iv (↑(r.machines.length):Int)),(37,iv (x33:Int)),(54,aSpans (mach r x33).changes),(55,iv (↑((mach r x33).changes.length):Int)),(56,iv ((x46:Int) + 1))] [(0,.cells 25 (cRun r))] 20560) ⟨(o16 hp h32 x33 hx33 h34 h45 x46 hx46 h47 h60),tv,tv⟩ ?_
      exact loop_next (z71_2 r x33) x46 (eQ hE [] [(0,.same 0)] [35,36,37,54,55] [0] (((zP 0)/\(zT (AV.sl 2 r.machines.length fun (i:Nat)=>cMach (mach r i)))/\(zT (iv (↑(r.machines.length):Int)))/\(zT (iv (x33:Int)))/\(zT (aSpans (mach r x33).changes))/\(zT (iv (↑((mach r x33).changes.length):Int)))/\(zN (iv ((x46:Int) + 1)) (iv (↑(x46 + 1):Int)))/\True)/\((zT (OB.cells 25 (cRun r)))/\True)/\T2) ⟨⟨⟨rfl,rfl⟩,⟨rfl,rfl⟩,⟨rfl,rfl⟩,⟨rfl,rfl⟩,⟨rfl,rfl⟩,⟨rfl,rfl⟩,⟨(congrArg iv (o17 hp h32 x33 hx33 h34 h45 x46 hx46 h47 h60)),rfl⟩,tv⟩,⟨⟨rfl,rfl⟩,tv⟩,rfl,rfl⟩) (o18 hp h32 x33 hx33 h34 h45 x46 hx46 h47 h60) (o19 hp h32 x33 hx33 h34 h45 x46 hx46 h47 h60)
    ·refine swp_exit ?_
     refine sQ (kt:=[1,35,36,37]) (kh:=[0]) (q:=inI ((x33:Int) + 1)/\True/\True) (st':=ASt.mk [(1,.ptr 0 []),(35,.sl 2 r.machines.length fun (i:Nat)=>cMach (mach r i)),(36,iv (↑(r.machines.length):Int)),(37,iv ((x33:Int) + 1))] [(0,.cells 25 (cRun r))] 20424) ⟨(o20 hp h32 x33 hx33 h34 h45 x46 hx46 h47),tv,tv⟩ ?_
     exact loop_next (z71_3 r) x33 (eQ hE [] [(0,.same 0)] [35,36] [0] (((zP 0)/\(zT (AV.sl 2 r.machines.length fun (i:Nat)=>cMach (mach r i)))/\(zT (iv (↑(r.machines.length):Int)))/\(zN (iv ((x33:Int) + 1)) (iv (↑(x33 + 1):Int)))/\True)/\((zT (OB.cells 25 (cRun r)))/\True)/\T2) ⟨⟨⟨rfl,rfl⟩,⟨rfl,rfl⟩,⟨rfl,rfl⟩,⟨(congrArg iv (o21 hp h32 x33 hx33 h34 h45 x46 hx46 h47)),rfl⟩,tv⟩,⟨⟨rfl,rfl⟩,tv⟩,rfl,rfl⟩) (o22 hp h32 x33 hx33 h34 h45 x46 hx46 h47) (o23 hp h32 x33 hx33 h34 h45 x46 hx46 h47)
  ·refine swp_exit (swp_seq (swp_seq ?_))
   refine sQ (kt:=[1,76,77,78]) (kh:=[0]) (q:=tn 4) (st':=ASt.mk [(1,.ptr 0 []),(76,.sl 3 r.found.length fun (i:Nat)=>cFnd (fnd r i)),(77,iv (↑(r.found.length):Int)),(78,iv 0)] [(0,.cells 25 (cRun r))] 10272) (tp 4) ?_
   refine swp_block ?_
   refine swp_loopA (z71_4 r) (eQ hE [] [(0,.same 0)] [76,77] [0] (((zP 0)/\(zT (AV.sl 3 r.found.length fun (i:Nat)=>cFnd (fnd r i)))/\(zT (iv (↑(r.found.length):Int)))/\(zN (iv 0) (iv (↑0:Int)))/\True)/\((zT (OB.cells 25 (cRun r)))/\True)/\T2) ⟨⟨⟨rfl,rfl⟩,⟨rfl,rfl⟩,⟨rfl,rfl⟩,⟨(congrArg iv (o24 hp h32 x33 hx33 h34)),rfl⟩,tv⟩,⟨⟨rfl,rfl⟩,tv⟩,rfl,rfl⟩) (o25 hp h32 x33 hx33 h34) (fun (x61:Nat) hx61 => ?_)
   refine swp_seq ?_
   refine sQ (kt:=[1,76,77,78,79]) (kh:=[0]) (q:=True/\True) (st':=ASt.mk [(1,.ptr 0 []),(76,.sl 3 r.found.length fun (i:Nat)=>cFnd (fnd r i)),(77,iv (↑(r.found.length):Int)),(78,iv (x61:Int)),(79,bv (decide ((x61:Int) < (↑(r.found.length):Int))))] [(0,.cells 25 (cRun r))] 20280) ⟨tv,tv⟩ ?_
   refine swp_seq ?_
   refine swp_cond (decide ((x61:Int) < (↑(r.found.length):Int))) (by kernel_rfl) (fun h62 => ?_) (fun h62 => ?_)
   ·refine swp_skip (swp_seq (swp_block (swp_seq ?_)))
    refine sQ (kt:=[1,76,77,78,8]) (kh:=[0,20296]) (q:=(0<=(x61:Int)/\(x61:Int) < (↑(r.found.length):Int))/\tn 3) (st':=ASt.mk [(1,.ptr 0 []),(76,.sl 3 r.found.length fun (i:Nat)=>cFnd (fnd r i)),(77,iv (↑(r.found.length):Int)),(78,iv (x61:Int)),(8,.ptr 20296 [])] [(0,.cells 25 (cRun r)),(20296,.cells 32 (cFnd (fnd r x61)))] 20312) ⟨⟨(o26 hp h32 x33 hx33 h34 x61 hx61 h62),(o27 hp h32 x33 hx33 h34 x61 hx61 h62)⟩,tp 3⟩ ?_
    refine swp_seq (swp_seq ?_)
    refine sC (cs:=[(5,CallSpec.eq (s112 (fnd r x61).minute 0 (r.last - 1)) [true,true,true]),(24,CallSpec.eq (c71 r x61) [true,false])]) (kt:=[1,76,77,78,8,107]) (kh:=[0,20296]) (q:=True/\True/\True/\True/\inI (r.last - 1)/\((zE (iv (fnd r x61).minute)/\iv 0=iv 0/\zE (iv (r.last - 1))/\True)/\Triple Try.prog 112 (s112 (fnd r x61).minute 0 (r.last - 1))/\True/\True /\ ∀ (i63:Env),True)/\True/\True/\((!!within (fnd r x61).minute 0 (r.last - 1))=true->(True/\True)/\True)/\((!!within (fnd r x61).minute 0 (r.last - 1))=true->(((!!within (fnd r x61).minute 0 (r.last - 1))=true->(!!within (fnd r x61).minute 0 (r.last - 1))=true)/\True)/\True)/\((!!within (fnd r x61).minute 0 (r.last - 1))=true->(((!!within (fnd r x61).minute 0 (r.last - 1))=true->(!!within (fnd r x61).minute 0 (r.last - 1))=true)/\True)/\True)/\((!!within (fnd r x61).minute 0 (r.last - 1))=true->(True/\True)/\True)/\((!!within (fnd r x61).minute 0 (r.last - 1))=true->(((!!within (fnd r x61).minute 0 (r.last - 1))=true->(!!within (fnd r x61).minute 0 (r.last - 1))=true)/\True)/\True)/\((!!within (fnd r x61).minute 0 (r.last - 1))=true->(((!!within (fnd r x61).minute 0 (r.last - 1))=true->(!!within (fnd r x61).minute 0 (r.last - 1))=true)/\((!!within (fnd r x61).minute 0 (r.last - 1))=true->(!!within (fnd r x61).minute 0 (r.last - 1))=true)/\True)/\True)/\(((!within (fnd r x61).minute 0 (r.last - 1))=true->True)/\((!within (fnd r x61).minute 0 (r.last - 1))=false->(!!within (fnd r x61).minute 0 (r.last - 1))=true))/\True/\((!bif !within (fnd r x61).minute 0 (r.last - 1) then true else !decide ((↑((fnd r x61).new.length):Int)=r.plates))=true->(True/\True)/\True)/\((!bif !within (fnd r x61).minute 0 (r.last - 1) then true else !decide ((↑((fnd r x61).new.length):Int)=r.plates))=true->(((!bif !within (fnd r x61).minute 0 (r.last - 1) then true else !decide ((↑((fnd r x61).new.length):Int)=r.plates))=true->(!bif !within (fnd r x61).minute 0 (r.last - 1) then true else !decide ((↑((fnd r x61).new.length):Int)=r.plates))=true)/\True)/\True)/\((!bif !within (fnd r x61).minute 0 (r.last - 1) then true else !decide ((↑((fnd r x61).new.length):Int)=r.plates))=true->(((!bif !within (fnd r x61).minute 0 (r.last - 1) then true else !decide ((↑((fnd r x61).new.length):Int)=r.plates))=true->(!bif !within (fnd r x61).minute 0 (r.last - 1) then true else !decide ((↑((fnd r x61).new.length):Int)=r.plates))=true)/\True)/\True)/\((!bif !within (fnd r x61).minute 0 (r.last - 1) then true else !decide ((↑((fnd r x61).new.length):Int)=r.plates))=true->(((!bif !within (fnd r x61).minute 0 (r.last - 1) then true else !decide ((↑((fnd r x61).new.length):Int)=r.plates))=true->(!bif !within (fnd r x61).minute 0 (r.last - 1) then true else !decide ((↑((fnd r x61).new.length):Int)=r.plates))=true)/\True/\True)/\True)/\(((bif !within (fnd r x61).minute 0 (r.last - 1) then true else !decide ((↑((fnd r x61).new.length):Int)=r.plates))=true->True)/\((bif !within (fnd r x61).minute 0 (r.last - 1) then true else !decide ((↑((fnd r x61).new.length):Int)=r.plates))=false->(!bif !within (fnd r x61).minute 0 (r.last - 1) then true else !decide ((↑((fnd r x61).new.length):Int)=r.plates))=true))/\True/\((!bif bif !within (fnd r x61).minute 0 (r.last - 1) then true else !decide ((↑((fnd r x61).new.length):Int)=r.plates) then true else decide ((↑((fnd r x61).frm.length):Int)=0))=true->(True/\True)/\True)/\((!bif bif !within (fnd r x61).minute 0 (r.last - 1) then true else !decide ((↑((fnd r x61).new.length):Int)=r.plates) then true else decide ((↑((fnd r x61).frm.length):Int)=0))=true->(((!bif bif !within (fnd r x61).minute 0 (r.last - 1) then true else !decide ((↑((fnd r x61).new.length):Int)=r.plates) then true else decide ((↑((fnd r x61).frm.length):Int)=0))=true->(!bif bif !within (fnd r x61).minute 0 (r.last - 1) then true else !decide ((↑((fnd r x61).new.length):Int)=r.plates) then true else decide ((↑((fnd r x61).frm.length):Int)=0))=true)/\True)/\True)/\((!bif bif !within (fnd r x61).minute 0 (r.last - 1) then true else !decide ((↑((fnd r x61).new.length):Int)=r.plates) then true else decide ((↑((fnd r x61).frm.length):Int)=0))=true->(True/\((!bif bif !within (fnd r x61).minute 0 (r.last - 1) then true else !decide ((↑((fnd r x61).new.length):Int)=r.plates) then true else decide ((↑((fnd r x61).frm.length):Int)=0))=true->(!bif bif !within (fnd r x61).minute 0 (r.last - 1) then true else !decide ((↑((fnd r x61).new.length):Int)=r.plates) then true else decide ((↑((fnd r x61).frm.length):Int)=0))=true)/\True/\True)/\(zE (aInts (fnd r x61).new)/\True/\True)/\Triple Try.prog 113 (c71 r x61)/\(fnd r x61).new.length<=1125899906842624/\True /\ ∀ (i91:Env) (i92:List Value),Env.le E0 i91->i92.length=2->(∀ (k:Nat),Rel i91 true (List.getD [aInts (fnd r x61).new,AV.clo 114 []] k AV.any) (i92.getD k undef))->fnokOf Try.prog 0 (fun (w:{ n:Int // n ∈ (fnd r x61).new })=>[iv (Subtype.val w)]) (fun (w:{ n:Int // n ∈ (fnd r x61).new })=>bv (badNew (Subtype.val w))) (Env.mk i91.1 i91.2 i91.3 fun (k:Nat) (u:Value) => ∃ (i:Nat),[aInts (fnd r x61).new,AV.fn 0][i]? = some (AV.fn k)/\i92[i]? = some u))/\(((bif bif !within (fnd r x61).minute 0 (r.last - 1) then true else !decide ((↑((fnd r x61).new.length):Int)=r.plates) then true else decide ((↑((fnd r x61).frm.length):Int)=0))=true->True)/\((bif bif !within (fnd r x61).minute 0 (r.last - 1) then true else !decide ((↑((fnd r x61).new.length):Int)=r.plates) then true else decide ((↑((fnd r x61).frm.length):Int)=0))=false->(!bif bif !within (fnd r x61).minute 0 (r.last - 1) then true else !decide ((↑((fnd r x61).new.length):Int)=r.plates) then true else decide ((↑((fnd r x61).frm.length):Int)=0))=true))/\True) (st':=ASt.mk [(1,.ptr 0 []),(76,.sl 3 r.found.length fun (i:Nat)=>cFnd (fnd r i)),(77,iv (↑(r.found.length):Int)),(78,iv (x61:Int)),(8,.ptr 20296 []),(107,bv (bif bif bif !within (fnd r x61).minute 0 (r.last - 1) then true else !decide ((↑((fnd r x61).new.length):Int)=r.plates) then true else decide ((↑((fnd r x61).frm.length):Int)=0) then true else List.any (fnd r x61).new badNew))] [(0,.cells 25 (cRun r)),(20296,.cells 32 (cFnd (fnd r x61)))] 20520) ⟨tv,tv,tv,tv,(o28 hp h32 x33 hx33 h34 x61 hx61 h62),⟨⟨rfl,rfl,rfl,tv⟩,(t112 (fnd r x61).minute (0) (r.last - 1)),tv,tv,(fun i63=>tv)⟩,tv,tv,(fun h64=>⟨⟨tv,tv⟩,tv⟩),(fun h65=>⟨⟨(fun h66=>h65),tv⟩,tv⟩),(fun h67=>⟨⟨(fun h68=>h67),tv⟩,tv⟩),(fun h69=>⟨⟨tv,tv⟩,tv⟩),(fun h70=>⟨⟨(fun h71=>h70),tv⟩,tv⟩),(fun h72=>⟨⟨(fun h73=>h72),(fun h74=>h72),tv⟩,tv⟩),⟨(fun h75=>tv),(fun h76=>(o29 hp h32 x33 hx33 h34 x61 hx61 h62 h76))⟩,tv,(fun h77=>⟨⟨tv,tv⟩,tv⟩),(fun h78=>⟨⟨(fun h79=>h78),tv⟩,tv⟩),(fun h80=>⟨⟨(fun h81=>h80),tv⟩,tv⟩),(fun h82=>⟨⟨(fun h83=>h82),tv,tv⟩,tv⟩),⟨(fun h84=>tv),(fun h85=>(o30 hp h32 x33 hx33 h34 x61 hx61 h62 h85))⟩,tv,(fun h86=>⟨⟨tv,tv⟩,tv⟩),(fun h87=>⟨⟨(fun h88=>h87),tv⟩,tv⟩),(fun h89=>⟨⟨tv,(fun h90=>h89),tv,tv⟩,⟨rfl,tv,tv⟩,(t113 _ _),(o31 hp h32 x33 hx33 h34 x61 hx61 h62 h89),tv,(fun i91=>(fun i92=>(fun h93=>(fun h94=>(fun h95=>(o32 E0 hp h32 x33 hx33 h34 x61 hx61 h62 h89 i91 i92 h93 h94 h95))))))⟩),⟨(fun h96=>tv),(fun h97=>(o33 hp h32 x33 hx33 h34 x61 hx61 h62 h97))⟩,tv⟩ ?_
    refine swp_cond (bif bif bif !within (fnd r x61).minute 0 (r.last - 1) then true else !decide ((↑((fnd r x61).new.length):Int)=r.plates) then true else decide ((↑((fnd r x61).frm.length):Int)=0) then true else List.any (fnd r x61).new badNew) (by kernel_rfl) (fun h98 => ?_) (fun h98 => ?_)
    ·refine swp_seq ?_
     refine sQ (kt:=[2]) (kh:=[]) (q:=True/\True) (st':=ASt.mk [(2,iv 60)] [] 20528) ⟨tv,tv⟩ ?_
     refine swp_ret ?_
     exact rQ [] ((True/\True)/\(zN (iv 60) (iv (check r)))/\T3) ⟨⟨tv,tv⟩,⟨(congrArg iv (o34 hp h32 x33 hx33 h34 x61 hx61 h62 h98)),rfl⟩,rfl,rfl,rfl⟩
    ·refine swp_skip (swp_seq ?_)
     refine sQ (kt:=[1,76,77,78,8,109,110,111]) (kh:=[0,20296]) (q:=tn 4) (st':=ASt.mk [(1,.ptr 0 []),(76,.sl 3 r.found.length fun (i:Nat)=>cFnd (fnd r i)),(77,iv (↑(r.found.length):Int)),(78,iv (x61:Int)),(8,.ptr 20296 []),(109,aInts (fnd r x61).frm),(110,iv (↑((fnd r x61).frm.length):Int)),(111,iv 0)] [(0,.cells 25 (cRun r)),(20296,.cells 32 (cFnd (fnd r x61)))] 20552) (tp 4) ?_
     refine swp_block ?_
     refine swp_loopA (z71_1 r x61) (eQ hE [] [(0,.same 0),(20296,.same 20296)] [76,77,78,109,110] [0,20296] (((zP 0)/\(zT (AV.sl 3 r.found.length fun (i:Nat)=>cFnd (fnd r i)))/\(zT (iv (↑(r.found.length):Int)))/\(zT (iv (x61:Int)))/\(zP 20296)/\(zT (aInts (fnd r x61).frm))/\(zT (iv (↑((fnd r x61).frm.length):Int)))/\(zN (iv 0) (iv (↑0:Int)))/\True)/\((zT (OB.cells 25 (cRun r)))/\(zT (OB.cells 32 (cFnd (fnd r x61))))/\True)/\T2) ⟨⟨⟨rfl,rfl⟩,⟨rfl,rfl⟩,⟨rfl,rfl⟩,⟨rfl,rfl⟩,⟨rfl,rfl⟩,⟨rfl,rfl⟩,⟨rfl,rfl⟩,⟨(congrArg iv (o35 hp h32 x33 hx33 h34 x61 hx61 h62 h98)),rfl⟩,tv⟩,⟨⟨rfl,rfl⟩,⟨rfl,rfl⟩,tv⟩,rfl,rfl⟩) (o36 hp h32 x33 hx33 h34 x61 hx61 h62 h98) (fun (x99:Nat) hx99 => ?_)
     refine swp_seq ?_
     refine sQ (kt:=[1,76,77,78,8,109,110,111,112]) (kh:=[0,20296]) (q:=True/\True) (st':=ASt.mk [(1,.ptr 0 []),(76,.sl 3 r.found.length fun (i:Nat)=>cFnd (fnd r i)),(77,iv (↑(r.found.length):Int)),(78,iv (x61:Int)),(8,.ptr 20296 []),(109,aInts (fnd r x61).frm),(110,iv (↑((fnd r x61).frm.length):Int)),(111,iv (x99:Int)),(112,bv (decide ((x99:Int) < (↑((fnd r x61).frm.length):Int))))] [(0,.cells 25 (cRun r)),(20296,.cells 32 (cFnd (fnd r x61)))] 30560) ⟨tv,tv⟩ ?_
     refine swp_seq ?_
     refine swp_cond (decide ((x99:Int) < (↑((fnd r x61).frm.length):Int))) (by kernel_rfl) (fun h100 => ?_) (fun h100 => ?_)
     ·refine swp_skip (swp_seq (swp_block (swp_seq ?_)))
      refine sQ (kt:=[1,76,77,78,8,109,110,111,9,10]) (kh:=[0,20296]) (q:=True/\(0<=(x99:Int)/\(x99:Int) < (↑((fnd r x61).frm.length):Int))/\tn 3) (st':=ASt.mk [(1,.ptr 0 []),(76,.sl 3 r.found.length fun (i:Nat)=>cFnd (fnd r i)),(77,iv (↑(r.found.length):Int)),(78,iv (x61:Int)),(8,.ptr 20296 []),(109,aInts (fnd r x61).frm),(110,iv (↑((fnd r x61).frm.length):Int)),(111,iv (x99:Int)),(9,iv (x99:Int)),(10,iv ((fnd r x61).frm.getD x99 0))] [(0,.cells 25 (cRun r)),(20296,.cells 32 (cFnd (fnd r x61)))] 30600) ⟨tv,⟨(o37 hp h32 x33 hx33 h34 x61 hx61 h62 h98 x99 hx99 h100),(o38 hp h32 x33 hx33 h34 x61 hx61 h62 h98 x99 hx99 h100)⟩,tp 3⟩ ?_
      refine swp_seq ?_
      refine sC (cs:=[(5,CallSpec.eq (s112 ((fnd r x61).frm.getD x99 0) 0 ((↑(r.machines.length):Int) - 1)) [true,true,true])]) (kt:=[1,76,77,78,8,109,110,111,136]) (kh:=[0,20296]) (q:=True/\True/\True/\True/\inI ((↑(r.machines.length):Int) - 1)/\((zE (iv ((fnd r x61).frm.getD x99 0))/\iv 0=iv 0/\zE (iv ((↑(r.machines.length):Int) - 1))/\True)/\Triple Try.prog 112 (s112 ((fnd r x61).frm.getD x99 0) 0 ((↑(r.machines.length):Int) - 1))/\True/\True /\ ∀ (i101:Env),True)/\True/\True/\((!!within ((fnd r x61).frm.getD x99 0) 0 ((↑(r.machines.length):Int) - 1))=true->(True/\True)/\True)/\((!!within ((fnd r x61).frm.getD x99 0) 0 ((↑(r.machines.length):Int) - 1))=true->(((!!within ((fnd r x61).frm.getD x99 0) 0 ((↑(r.machines.length):Int) - 1))=true->(!!within ((fnd r x61).frm.getD x99 0) 0 ((↑(r.machines.length):Int) - 1))=true)/\True/\True)/\True)/\((!!within ((fnd r x61).frm.getD x99 0) 0 ((↑(r.machines.length):Int) - 1))=true->(((!!within ((fnd r x61).frm.getD x99 0) 0 ((↑(r.machines.length):Int) - 1))=true->(!!within ((fnd r x61).frm.getD x99 0) 0 ((↑(r.machines.length):Int) - 1))=true)/\True)/\True)/\((!!within ((fnd r x61).frm.getD x99 0) 0 ((↑(r.machines.length):Int) - 1) && decide (0 < (x99:Int)))=true->(True/\True)/\True)/\((!!within ((fnd r x61).frm.getD x99 0) 0 ((↑(r.machines.length):Int) - 1) && decide (0 < (x99:Int)))=true->(True/\True)/\True)/\((!!within ((fnd r x61).frm.getD x99 0) 0 ((↑(r.machines.length):Int) - 1) && decide (0 < (x99:Int)))=true->(((!!within ((fnd r x61).frm.getD x99 0) 0 ((↑(r.machines.length):Int) - 1) && decide (0 < (x99:Int)))=true->(!!within ((fnd r x61).frm.getD x99 0) 0 ((↑(r.machines.length):Int) - 1) && decide (0 < (x99:Int)))=true)/\True)/\True)/\((!!within ((fnd r x61).frm.getD x99 0) 0 ((↑(r.machines.length):Int) - 1) && decide (0 < (x99:Int)))=true->(True/\True)/\True)/\((!!within ((fnd r x61).frm.getD x99 0) 0 ((↑(r.machines.length):Int) - 1) && decide (0 < (x99:Int)))=true->(((!!within ((fnd r x61).frm.getD x99 0) 0 ((↑(r.machines.length):Int) - 1) && decide (0 < (x99:Int)))=true->(!!within ((fnd r x61).frm.getD x99 0) 0 ((↑(r.machines.length):Int) - 1) && decide (0 < (x99:Int)))=true)/\True/\True)/\inI ((x99:Int) - 1))/\((!!within ((fnd r x61).frm.getD x99 0) 0 ((↑(r.machines.length):Int) - 1) && decide (0 < (x99:Int)))=true->(((!!within ((fnd r x61).frm.getD x99 0) 0 ((↑(r.machines.length):Int) - 1) && decide (0 < (x99:Int)))=true->(!!within ((fnd r x61).frm.getD x99 0) 0 ((↑(r.machines.length):Int) - 1) && decide (0 < (x99:Int)))=true)/\((!!within ((fnd r x61).frm.getD x99 0) 0 ((↑(r.machines.length):Int) - 1) && decide (0 < (x99:Int)))=true->(!!within ((fnd r x61).frm.getD x99 0) 0 ((↑(r.machines.length):Int) - 1) && decide (0 < (x99:Int)))=true)/\True)/\0<=(x99:Int) - 1/\(x99:Int) - 1 < (↑((fnd r x61).frm.length):Int))/\((!!within ((fnd r x61).frm.getD x99 0) 0 ((↑(r.machines.length):Int) - 1) && decide (0 < (x99:Int)))=true->(((!!within ((fnd r x61).frm.getD x99 0) 0 ((↑(r.machines.length):Int) - 1) && decide (0 < (x99:Int)))=true->(!!within ((fnd r x61).frm.getD x99 0) 0 ((↑(r.machines.length):Int) - 1) && decide (0 < (x99:Int)))=true)/\True)/\True)/\((!!within ((fnd r x61).frm.getD x99 0) 0 ((↑(r.machines.length):Int) - 1) && decide (0 < (x99:Int)))=true->(((!!within ((fnd r x61).frm.getD x99 0) 0 ((↑(r.machines.length):Int) - 1) && decide (0 < (x99:Int)))=true->(!!within ((fnd r x61).frm.getD x99 0) 0 ((↑(r.machines.length):Int) - 1) && decide (0 < (x99:Int)))=true)/\((!!within ((fnd r x61).frm.getD x99 0) 0 ((↑(r.machines.length):Int) - 1) && decide (0 < (x99:Int)))=true->(!!within ((fnd r x61).frm.getD x99 0) 0 ((↑(r.machines.length):Int) - 1) && decide (0 < (x99:Int)))=true)/\True)/\True)/\((!!within ((fnd r x61).frm.getD x99 0) 0 ((↑(r.machines.length):Int) - 1))=true->(((!!within ((fnd r x61).frm.getD x99 0) 0 ((↑(r.machines.length):Int) - 1))=true->(!!within ((fnd r x61).frm.getD x99 0) 0 ((↑(r.machines.length):Int) - 1))=true)/\True)/\(decide (0 < (x99:Int))=true->(!!within ((fnd r x61).frm.getD x99 0) 0 ((↑(r.machines.length):Int) - 1) && decide (0 < (x99:Int)))=true)/\(decide (0 < (x99:Int))=false->True))/\(((!within ((fnd r x61).frm.getD x99 0) 0 ((↑(r.machines.length):Int) - 1))=true->True)/\((!within ((fnd r x61).frm.getD x99 0) 0 ((↑(r.machines.length):Int) - 1))=false->(!!within ((fnd r x61).frm.getD x99 0) 0 ((↑(r.machines.length):Int) - 1))=true))/\True) (st':=ASt.mk [(1,.ptr 0 []),(76,.sl 3 r.found.length fun (i:Nat)=>cFnd (fnd r i)),(77,iv (↑(r.found.length):Int)),(78,iv (x61:Int)),(8,.ptr 20296 []),(109,aInts (fnd r x61).frm),(110,iv (↑((fnd r x61).frm.length):Int)),(111,iv (x99:Int)),(136,bv (bif !within ((fnd r x61).frm.getD x99 0) 0 ((↑(r.machines.length):Int) - 1) then true else bif decide (0 < (x99:Int)) then decide ((fnd r x61).frm.getD x99 0<=(fnd r x61).frm.getD ((x99:Int) - 1).toNat 0) else false))] [(0,.cells 25 (cRun r)),(20296,.cells 32 (cFnd (fnd r x61)))] 30768) ⟨tv,tv,tv,tv,(o39 hp h32 x33 hx33 h34 x61 hx61 h62 h98 x99 hx99 h100),⟨⟨rfl,rfl,rfl,tv⟩,(t112 ((fnd r x61).frm.getD x99 0) (0) ((↑(r.machines.length):Int) - 1)),tv,tv,(fun i101=>tv)⟩,tv,tv,(fun h102=>⟨⟨tv,tv⟩,tv⟩),(fun h103=>⟨⟨(fun h104=>h103),tv,tv⟩,tv⟩),(fun h105=>⟨⟨(fun h106=>h105),tv⟩,tv⟩),(fun h107=>⟨⟨tv,tv⟩,tv⟩),(fun h108=>⟨⟨tv,tv⟩,tv⟩),(fun h109=>⟨⟨(fun h110=>h109),tv⟩,tv⟩),(fun h111=>⟨⟨tv,tv⟩,tv⟩),(fun h112=>⟨⟨(fun h113=>h112),tv,tv⟩,(o40 hp h32 x33 hx33 h34 x61 hx61 h62 h98 x99 hx99 h100 h112)⟩),(fun h114=>⟨⟨(fun h115=>h114),(fun h116=>h114),tv⟩,(o41 hp h32 x33 hx33 h34 x61 hx61 h62 h98 x99 hx99 h100 h114),(o42 hp h32 x33 hx33 h34 x61 hx61 h62 h98 x99 hx99 h100 h114)⟩),(fun h117=>⟨⟨(fun h118=>h117),tv⟩,tv⟩),(fun h119=>⟨⟨(fun h120=>h119),(fun h121=>h119),tv⟩,tv⟩),(fun h122=>⟨⟨(fun h123=>h122),tv⟩,(fun h124=>(o43 hp h32 x33 hx33 h34 x61 hx61 h62 h98 x99 hx99 h100 h122 h124)),(fun h125=>tv)⟩),⟨(fun h126=>tv),(fun h127=>(o44 hp h32 x33 hx33 h34 x61 hx61 h62 h98 x99 hx99 h100 h127))⟩,tv⟩ ?_
      refine swp_cond (bif !within ((fnd r x61).frm.getD x99 0) 0 ((↑(r.machines.length):Int) - 1) then true else bif decide (0 < (x99:Int)) then decide ((fnd r x61).frm.getD x99 0<=(fnd r x61).frm.getD ((x99:Int) - 1).toNat 0) else false) (by kernel_rfl) (fun h128 => ?_) (fun h128 => ?_)
      ·refine swp_seq ?_
       refine sQ (kt:=[2]) (kh:=[]) (q:=True/\True) (st':=ASt.mk [(2,iv 60)] [] 30776) ⟨tv,tv⟩ ?_
       refine swp_ret ?_
       exact rQ [] ((True/\True)/\(zN (iv 60) (iv (check r)))/\T3) ⟨⟨tv,tv⟩,⟨(congrArg iv (o45 hp h32 x33 hx33 h34 x61 hx61 h62 h98 x99 hx99 h100 h128)),rfl⟩,rfl,rfl,rfl⟩
      ·refine swp_skip ?_
       refine sQ (kt:=[1,76,77,78,8,109,110,111]) (kh:=[0,20296]) (q:=inI ((x99:Int) + 1)/\True/\True) (st':=ASt.mk [(1,.ptr 0 []),(76,.sl 3 r.found.length fun (i:Nat)=>cFnd (fnd r i)),(77,iv (↑(r.found.length):Int)),(78,iv (x61:Int)),(8,.ptr 20296 []),(109,aInts (fnd r x61).frm),(110,iv (↑((fnd r x61).frm.length):Int)),(111,iv ((x99:Int) + 1))] [(0,.cells 25 (cRun r)),(20296,.cells 32 (cFnd (fnd r x61)))] 30784) ⟨(o46 hp h32 x33 hx33 h34 x61 hx61 h62 h98 x99 hx99 h100 h128),tv,tv⟩ ?_
       exact loop_next (z71_1 r x61) x99 (eQ hE [] [(0,.same 0),(20296,.same 20296)] [76,77,78,109,110] [0,20296] (((zP 0)/\(zT (AV.sl 3 r.found.length fun (i:Nat)=>cFnd (fnd r i)))/\(zT (iv (↑(r.found.length):Int)))/\(zT (iv (x61:Int)))/\(zP 20296)/\(zT (aInts (fnd r x61).frm))/\(zT (iv (↑((fnd r x61).frm.length):Int)))/\(zN (iv ((x99:Int) + 1)) (iv (↑(x99 + 1):Int)))/\True)/\((zT (OB.cells 25 (cRun r)))/\(zT (OB.cells 32 (cFnd (fnd r x61))))/\True)/\T2) ⟨⟨⟨rfl,rfl⟩,⟨rfl,rfl⟩,⟨rfl,rfl⟩,⟨rfl,rfl⟩,⟨rfl,rfl⟩,⟨rfl,rfl⟩,⟨rfl,rfl⟩,⟨(congrArg iv (o47 hp h32 x33 hx33 h34 x61 hx61 h62 h98 x99 hx99 h100 h128)),rfl⟩,tv⟩,⟨⟨rfl,rfl⟩,⟨rfl,rfl⟩,tv⟩,rfl,rfl⟩) (o48 hp h32 x33 hx33 h34 x61 hx61 h62 h98 x99 hx99 h100 h128) (o49 hp h32 x33 hx33 h34 x61 hx61 h62 h98 x99 hx99 h100 h128)
     ·refine swp_exit ?_
      refine sQ (kt:=[1,76,77,78]) (kh:=[0]) (q:=inI ((x61:Int) + 1)/\True/\True) (st':=ASt.mk [(1,.ptr 0 []),(76,.sl 3 r.found.length fun (i:Nat)=>cFnd (fnd r i)),(77,iv (↑(r.found.length):Int)),(78,iv ((x61:Int) + 1))] [(0,.cells 25 (cRun r))] 30576) ⟨(o50 hp h32 x33 hx33 h34 x61 hx61 h62 h98 x99 hx99 h100),tv,tv⟩ ?_
      exact loop_next (z71_4 r) x61 (eQ hE [] [(0,.same 0)] [76,77] [0] (((zP 0)/\(zT (AV.sl 3 r.found.length fun (i:Nat)=>cFnd (fnd r i)))/\(zT (iv (↑(r.found.length):Int)))/\(zN (iv ((x61:Int) + 1)) (iv (↑(x61 + 1):Int)))/\True)/\((zT (OB.cells 25 (cRun r)))/\True)/\T2) ⟨⟨⟨rfl,rfl⟩,⟨rfl,rfl⟩,⟨rfl,rfl⟩,⟨(congrArg iv (o51 hp h32 x33 hx33 h34 x61 hx61 h62 h98 x99 hx99 h100)),rfl⟩,tv⟩,⟨⟨rfl,rfl⟩,tv⟩,rfl,rfl⟩) (o52 hp h32 x33 hx33 h34 x61 hx61 h62 h98 x99 hx99 h100) (o53 hp h32 x33 hx33 h34 x61 hx61 h62 h98 x99 hx99 h100)
   ·refine swp_exit (swp_seq ?_)
    refine sQ (kt:=[2]) (kh:=[]) (q:=True/\True) (st':=ASt.mk [(2,iv 0)] [] 20288) ⟨tv,tv⟩ ?_
    refine swp_ret ?_
    exact rQ [] ((True/\True)/\(zN (iv 0) (iv (check r)))/\T3) ⟨⟨tv,tv⟩,⟨(congrArg iv (o54 hp h32 x33 hx33 h34 x61 hx61 h62)),rfl⟩,rfl,rfl,rfl⟩
theorem t71 (r:Run):Triple Try.prog 71 (s71 r):=by
 apply w71
 case o3=>intro _ h; rw [nbor4'] at h; exact (check_head (by rw [Bool.not_eq_true'] at h; exact h)).symm
 case o9 =>
  intro _ _ x hx hl h
  rw [nbor2] at h
  refine (check_mach (by simpa using hl) ?_).symm
  have h':okMach r (mach r x)=false:=by rw [Bool.not_eq_true'] at h; exact h
  simp [okMachA,h']
 case o15 =>
  intro _ h0 x hx hl _ y hy hyl h
  rw [nbor4'] at h0
  have hh:okHead r=true:=by rw [Bool.not_eq_false'] at h0; exact h0
  refine (check_mach (by simpa using hl) ?_).symm
  rw [spanB _ _ (head_last hh)] at h
  have h':(mach r x).changes.all (fun s=>isSpan s r.last)=false:=not_all _ default _ (by simpa using hyl) (by simpa using h)
  simp [okMachA,h']
 case o16=>intro hf _ x hx hl _ y hy hyl _; have:=hf.2.2.1 x; simp only [decide_eq_true_eq] at hyl; simp only [inI]; omega
 case o18 =>
  intro _ h0 x hx hl _ y hy hyl h
  rw [nbor4'] at h0
  have hh:okHead r=true:=by rw [Bool.not_eq_false'] at h0; exact h0
  rw [spanB _ _ (head_last hh)] at h
  exact ⟨by simp only [decide_eq_true_eq] at hyl; omega,lt_succ_cases hy.2 (by simpa [chg] using h)⟩
 case o22 =>
  intro _ _ x hx hl h y hy hyl
  refine ⟨by simp only [decide_eq_true_eq] at hl; omega,lt_succ_cases hx.2 ?_⟩
  rw [nbor2] at h
  have h1:okMach r (mach r x)=true:=by simpa [okMach] using h
  simp only [decide_eq_false_iff_not] at hyl
  have h2:(mach r x).changes.all (fun s=>isSpan s r.last)=true:=all_idx _ default _ (fun j hj=>hy.2 j (by omega))
  simp [okMachA,h1,h2]
 case o28 =>
  intro _ h
  rw [nbor4'] at h
  have hh:okHead r=true:=by rw [Bool.not_eq_false'] at h; exact h
  (repeat intro _)
  simp only [okHead,Bool.and_eq_true,within_iff] at hh
  simp only [inI]; omega
 case o32 =>
  intro E0 _ _ _ _ _ x hx hl _ E us le hlen hr
  refine fnok_arg (vals:=[aInts (fnd r x).new,.clo 114 []]) 1 (fun j' h => ?_) (fun E u hu i=>fnok_clo (caps:=[]) (s114 i.1) (t114 i.1) rfl trivial (fun _=>trivial) rfl rfl rfl rfl rfl hu) E us le hlen hr
  match j',h with
  | 0,h=>cases h
  | 1,_=>rfl
  | n + 2,h=>simp at h
 case o34 =>
  intro _ _ _ _ _ x hx hl h
  refine (check_fnd (by simpa using hl) ?_).symm
  rw [bor] at h
  rw [Bool.or_eq_true] at h
  rcases h with h | h
  ·rw [nbor3'] at h
   have h':okFnd r (fnd r x)=false:=by
    rw [Bool.not_eq_true'] at h
    unfold okFnd
    rw [h]; rfl
   simp [okFndA,h']
  ·have h':(fnd r x).new.all (fun n=>within n (-1) 1)=false:=by
    rw [List.any_eq_true] at h
    obtain ⟨n,hn,h⟩:=h
    rw [List.all_eq_false]
    exact ⟨n,hn,by simpa [badNew] using h⟩
   simp [okFndA,h']
 case o45 =>
  intro _ _ _ _ _ x hx hl _ y hy hyl h
  refine (check_fnd (by simpa using hl) ?_).symm
  rw [risB] at h
  have h':rising (fnd r x).frm 0 ((r.machines.length:Int) - 1)=false:=ris_not (by simpa using hyl) (by simpa using h)
  have h2:okFnd r (fnd r x)=false:=by unfold okFnd; rw [h']; simp
  simp [okFndA,h2]
 case o46=>intro hf _ _ _ _ x hx hl _ y hy hyl _; have:=(hf.2.2.2 x).2; simp only [decide_eq_true_eq] at hyl; simp only [inI]; omega
 case o40=>intro hf _ _ _ _ x hx hl _ y hy hyl _; have:=(hf.2.2.2 x).2; simp only [decide_eq_true_eq] at hyl; simp only [inI]; omega
 case o48=>intro _ _ _ _ _ x hx hl _ y hy hyl h; rw [risB] at h; exact ⟨by simp only [decide_eq_true_eq] at hyl; omega,lt_succ_cases hy.2 (by simpa using h)⟩
 case o52 =>
  intro _ _ _ _ _ x hx hl h y hy hyl
  refine ⟨by simp only [decide_eq_true_eq] at hl; omega,lt_succ_cases hx.2 ?_⟩
  simp only [decide_eq_false_iff_not] at hyl
  rw [bor] at h
  obtain ⟨h1,h2⟩:=(Bool.or_eq_false_iff).1 h
  rw [nbor3',Bool.not_eq_false'] at h1
  have hr:rising (fnd r x).frm 0 ((r.machines.length:Int) - 1)=true:=by
   unfold rising; rw [List.all_eq_true]; intro j hj; exact hy.2 j (by have:=List.mem_range.1 hj; omega)
  have h3:okFnd r (fnd r x)=true:=by unfold okFnd; rw [h1,hr]; rfl
  have h4:(fnd r x).new.all (fun n=>within n (-1) 1)=true:=by
   rw [List.any_eq_false] at h2
   rw [List.all_eq_true]
   intro n hn
   simpa [badNew] using h2 n hn
  simp [okFndA,h3,h4]
 case o54 =>
  intro _ h x hx hl y hy hyl
  rw [nbor4'] at h
  simp only [decide_eq_false_iff_not] at hl hyl
  have:=okRun_of (r:=r) (by rw [Bool.not_eq_false'] at h; exact h) (fun j hj=>hx.2 j (by omega)) (fun j hj=>hy.2 j (by omega))
  exact (check_zero.2 this).symm
 all_goals (try ((repeat intro _) <;> (try simp only [v0,v1,v2,v3,v4,v5,v6,v7,v8,v9,inI,fits,Go.Sh.small] at *) <;> first | (exact rfl) | omega | exact vz | (simp_all; done) | (simp_all; omega)))
end Go.Ab
namespace Go.Sh
structure Thg where
 off:Int
 at_:Int
 cost:Int
 prints:Int
 deriving DecidableEq,Inhabited
structure Mrk where
 ch:Int
 th:Int
 at_:Int
 deriving DecidableEq,Inhabited
structure Hs where
 things:List Thg
 marks:List Mrk
 deriving DecidableEq,Inhabited
def thg (h:Hs) (i:Nat):Thg:=h.things.getD i default
def isThing (h:Hs) (n:Int):Bool:=within n 0 ((h.things.length:Int) - 1)
def okT (h:Hs) (i:Nat):Bool:=within (thg h i).off (-1) ((i:Int) - 1) && within (thg h i).at_ 0 99 && (decide ((thg h i).off = -1) || !decide ((thg h i).at_ < (thg h (thg h i).off.toNat).at_)) && within (thg h i).cost 0 99 && within (thg h i).prints 0 1
def okM (h:Hs) (m:Mrk):Bool:=within m.ch 0 2 && isThing h m.th && within m.at_ (thg h m.th.toNat).at_ 99
def okH (h:Hs):Bool:=decide (h.things.length<=8) && decide (h.marks.length<=6) && (List.range h.things.length).all (okT h) && h.marks.all (okM h)
def check7 (h:Hs):Int:=if okH h then 0 else 70
def far7 (h:Hs):Bool:=decide ((h.things.length:Int) > 40) || decide ((h.marks.length:Int) > 40)
def plOK (h:Hs) (m n:Int):Bool := !decide ((thg h n.toNat).prints=0) && !decide ((thg h n.toNat).at_ > m)
def plates7 (h:Hs) (l:List Int) (m:Int):Bool:=rising l 0 ((h.things.length:Int) - 1) && l.all (plOK h m)
def fitsH (h:Hs):Prop:=h.things.length<=1125899906842624/\h.marks.length<=1125899906842624
def idxG {α:Type} (l:List α) (p:α->Bool):Int:=match l.findIdx? p with | some i=>i | none => -1
theorem idxG_found {α:Type} [Inhabited α] {l:List α} {p:α->Bool} {x:Nat} (hx:x < l.length) (h:∀ j,j < x->p (l.getD j default)=false) (hp:p (l.getD x default)=true):idxG l p=x:=by
 have:l.findIdx? p=some x:=by
  rw [List.findIdx?_eq_some_iff_getElem]
  refine ⟨hx,by rw [← Go.Ab.getD_lt l default hx]; exact hp,fun j hj => ?_⟩
  rw [← Go.Ab.getD_lt l default (by omega),h j hj]; simp
 simp [idxG,this]
theorem idxG_none {α:Type} [Inhabited α] {l:List α} {p:α->Bool} (h:∀ j,j < l.length->p (l.getD j default)=false):idxG l p = -1:=by
 have:l.findIdx? p=none:=by
  rw [List.findIdx?_eq_none_iff]
  intro x hx
  have h1:=Go.Ab.any_idx l default p h
  rw [List.any_eq_false] at h1
  simpa using h1 x hx
 simp [idxG,this]
theorem idxG_any {α:Type} (l:List α) (p:α->Bool):decide (0<=idxG l p)=l.any p:=by
 unfold idxG
 cases e:l.findIdx? p with
 | none =>
  rw [List.findIdx?_eq_none_iff] at e
  have:l.any p=false:=by rw [List.any_eq_false]; intro x hx; simp [e x hx]
  rw [this]; rfl
 | some i =>
  rw [List.findIdx?_eq_some_iff_getElem] at e
  obtain ⟨h,h1,_⟩:=e
  have:l.any p=true:=by rw [List.any_eq_true]; exact ⟨_,List.getElem_mem h,h1⟩
  rw [this]; simp
theorem okH_iff {h:Hs}:okH h=true ↔ h.things.length<=8/\h.marks.length<=6/\(∀ i,i < h.things.length->okT h i=true) /\ ∀ m,m ∈ h.marks->okM h m=true:=by
 simp only [okH,Bool.and_eq_true,decide_eq_true_eq,List.all_eq_true,List.mem_range]
 constructor
 ·rintro ⟨⟨⟨a,b⟩,c⟩,d⟩; exact ⟨a,b,c,d⟩
 ·rintro ⟨a,b,c,d⟩; exact ⟨⟨⟨a,b⟩,c⟩,d⟩
end Go.Sh
namespace Go.En
open Go Go.Ab Go.Sh
def cThg (t:Thg):List AV:=[iv t.off,iv t.at_,iv t.cost,iv t.prints]
def cMrk (m:Mrk):List AV:=[iv m.ch,iv m.th,iv m.at_]
def aMrks (l:List Mrk):AV := .sl 3 l.length (fun i=>cMrk (l.getD i default))
def cHs (h:Hs):List AV:=[.sl 4 h.things.length (fun i=>cThg (thg h i)),aMrks h.marks]
abbrev vThg (t:Thg):AV := .agg (cThg t)
abbrev vMrk (m:Mrk):AV := .agg (cMrk m)
abbrev vHs (h:Hs):AV := .agg (cHs h)
end Go.En
namespace Go.Ab
open Go Go.RowKit Go.Proofs Go.Sh Go.En
def s97 (n lo hi:Int):CallSpec:={ args:=[iv n,iv lo,iv hi],res:=bv (within n lo hi) }
def s130 (n lo hi:Int):CallSpec:=s97 n lo hi
def s62 (n:Int):CallSpec:={ args:=[iv n],res:=bv (within n 0 99) }
def s106 (n:Int):CallSpec:=s62 n
def s58 (n:Int):CallSpec:={ args:=[iv n],res:=bv (within n 0 2) }
def s103 (n:Int):CallSpec:=s58 n
def s124 (h:Hs) (n:Int):CallSpec:={ args:=[vHs h,iv n],res:=bv (isThing h n),pre:=fitsH h }
def s102 (h:Hs) (n:Int):CallSpec:=s124 h n
def s56 (h:Hs):CallSpec:={ args:=[vHs h],res:=bv (far7 h),pre:=fitsH h }
def s98 (h:Hs) (m:Mrk):CallSpec:={ args:=[vHs h,vMrk m],res:=bv (okM h m),pre:=fitsH h }
def s57 (h:Hs):CallSpec:={ args:=[vHs h],res:=iv (check7 h),pre:=fitsH h }
def h57a (h:Hs):Hint:={ X:=Nat,M:=fun i=>[(3,iv i)],I:=fun i=>i<=h.things.length /\ ∀ j,j < i->okT h j=true,mu:=fun i=>h.things.length - i,x0:=(0:Nat),nx:=fun i=>i + 1 }
def h57b (h:Hs):Hint:={ X:=Nat,M:=fun i=>[(5,iv i)],I:=fun i=>i<=h.marks.length /\ ∀ j,j < i->okM h (h.marks.getD j default)=true,mu:=fun i=>h.marks.length - i,x0:=(0:Nat),nx:=fun i=>i + 1 }
def s59 (h:Hs) (l:List Int) (m:Int):CallSpec:={ args:=[vHs h,aInts l,iv m],res:=bv (plates7 h l m),pre:=fitsH h/\l.length<=1125899906842624 }
def h59 (h:Hs) (l:List Int) (m:Int):Hint:={ X:=Nat,M:=fun i=>[(7,iv i)],I:=fun i=>i<=l.length /\ ∀ j,j < i->plOK h m (l.getD j 0)=true,mu:=fun i=>l.length - i,x0:=(0:Nat),nx:=fun i=>i + 1 }
def s144 (m:Mrk) (h:Hs):CallSpec:={ args:=[vMrk m,.rp (cHs h)],res:=bv (!okM h m),pre:=fitsH h }
def s157 (l:List Mrk) (p:Mrk->Bool):CallSpec:={ args:=[aMrks l,.fn 0],res:=iv (idxG l p),pre:=l.length<=1125899906842624,fnok:=fnokOf Try.prog 0 (fun m:Mrk=>[vMrk m]) (fun m=>bv (p m)) }
def h157 (l:List Mrk) (p:Mrk->Bool):Hint:={ X:=Nat,M:=fun i=>[(8,iv i)],I:=fun i=>i<=l.length /\ ∀ j,j < i->p (l.getD j default)=false,mu:=fun i=>l.length - i,x0:=(0:Nat),nx:=fun i=>i + 1 }
def c157 (l:List Mrk) (p:Mrk->Bool) (x:Nat):CallSpec:={ args:=[vMrk (l.getD x default)],res:=bv (p (l.getD x default)) }
def s143 (l:List Mrk) (p:Mrk->Bool):CallSpec:={ args:=[aMrks l,.fn 0],res:=bv (l.any p),pre:=l.length<=1125899906842624,fnok:=fnokOf Try.prog 0 (fun m:Mrk=>[vMrk m]) (fun m=>bv (p m)) }
def c143 (l:List Mrk) (p:Mrk->Bool):CallSpec:=s157 l p
def s129 (h:Hs):CallSpec:={ args:=[vHs h],res:=iv 0,pre:=okH h=true }
def h129 (h:Hs):Hint:={ X:=Nat,M:=fun i=>[(19,iv i)],I:=fun i=>i<=h.things.length,mu:=fun i=>h.things.length - i,x0:=(0:Nat),nx:=fun i=>i + 1 }
def c129 (h:Hs):CallSpec:=s143 h.marks (fun m => !okM h m)
def s101 (h:Hs) (is:Bool):CallSpec:={ args:=[vHs h,bv is],res:=iv 0,pre:=okH h=true/\is=true }
end Go.Ab
namespace Go.Ab
open Go Go.RowKit Go.Proofs Go.Sh Go.En
theorem w97 (n:Int) (lo:Int) (hi:Int) :
  Triple Try.prog 97 (s97 n lo hi):=by
 refine triple_of Try.func97 rfl Try.call97 T0_ok _ rfl rfl rfl rfl (Nat.le_of_ble_eq_true (by kernel_rfl)) (fun _ _ _ _ h=>h) ?_
 intro _ C hC _ hE
 obtain ⟨P,w0,E0,av,hA⟩:=C
 subst hC
 refine swp_seq ?_
 refine sQ (kt:=[0,1,2]) (kh:=[]) (q:=True/\True) (st':=ASt.mk [(0,iv n),(1,iv lo),(2,iv hi)] [] 8) ⟨tv,tv⟩ ?_
 refine swp_seq ?_
 refine sC (cs:=[(3,CallSpec.eq (s24 n lo hi) [true,true,true])]) (kt:=[6]) (kh:=[]) (q:=True/\True/\True/\((iv n=iv n/\iv lo=iv lo/\iv hi=iv hi/\True)/\Triple Try.prog 24 (s24 n lo hi)/\True/\True /\ ∀ (i0:Env),True)/\True/\True) (st':=ASt.mk [(6,bv (within n lo hi))] [] 48) ⟨tv,tv,tv,⟨⟨rfl,rfl,rfl,tv⟩,(t24 (n) (lo) (hi)),tv,tv,(fun i0=>tv)⟩,tv,tv⟩ ?_
 refine swp_ret ?_
 exact rQ [] ((True/\True)/\(zM (bv (within n lo hi)))/\T3) ⟨⟨tv,tv⟩,⟨rfl,rfl⟩,rfl,rfl,rfl⟩
theorem t97 (n lo hi:Int):Triple Try.prog 97 (s97 n lo hi):=by
 apply w97
 all_goals (first | ((repeat intro _) <;> (try simp only [v0,v1,v2,v3,v4,v5,v6,v7,v8,v9,inI,fits,Go.Sh.small] at *) <;> first | (exact rfl) | omega | exact vz | (simp_all; done) | (simp_all; omega)) | skip)
theorem w130 (n:Int) (lo:Int) (hi:Int)
  (o0:(bif decide (lo<=n) then decide (n<=hi) else false)=within n lo hi) :
  Triple Try.prog 130 (s130 n lo hi):=by
 refine triple_of Try.func130 rfl Try.call130 T0_ok _ rfl rfl rfl rfl (Nat.le_of_ble_eq_true (by kernel_rfl)) (fun _ _ _ _ h=>h) ?_
 intro _ C hC _ hE
 obtain ⟨P,w0,E0,av,hA⟩:=C
 subst hC
 refine swp_seq ?_
 refine sQ (kt:=[0,1,2]) (kh:=[]) (q:=True/\True) (st':=ASt.mk [(0,iv n),(1,iv lo),(2,iv hi)] [] 8) ⟨tv,tv⟩ ?_
 refine swp_seq ?_
 refine sQ (kt:=[6]) (kh:=[]) (q:=True/\True/\True/\True/\(decide (lo<=n)=true->(True/\True)/\True)/\(decide (lo<=n)=true->(True/\True)/\True)/\(decide (lo<=n)=true->((decide (lo<=n)=true->decide (lo<=n)=true)/\(decide (lo<=n)=true->decide (lo<=n)=true)/\True)/\True)/\((decide (lo<=n)=true->decide (lo<=n)=true)/\(decide (lo<=n)=false->True))/\True/\True) (st':=ASt.mk [(6,bv (bif decide (lo<=n) then decide (n<=hi) else false))] [] 80) ⟨tv,tv,tv,tv,(fun h0=>⟨⟨tv,tv⟩,tv⟩),(fun h1=>⟨⟨tv,tv⟩,tv⟩),(fun h2=>⟨⟨(fun h3=>h2),(fun h4=>h2),tv⟩,tv⟩),⟨(fun h5=>h5),(fun h6=>tv)⟩,tv,tv⟩ ?_
 refine swp_ret ?_
 exact rQ [] ((True/\True)/\(zN (bv (bif decide (lo<=n) then decide (n<=hi) else false)) (bv (within n lo hi)))/\T3) ⟨⟨tv,tv⟩,⟨(congrArg bv (o0)),rfl⟩,rfl,rfl,rfl⟩
theorem t130 (n lo hi:Int):Triple Try.prog 130 (s130 n lo hi):=by
 apply w130
 all_goals (first | ((repeat intro _) <;> (try simp only [v0,v1,v2,v3,v4,v5,v6,v7,v8,v9,inI,fits,Go.Sh.small] at *) <;> first | (exact rfl) | omega | exact vz | (simp_all; done) | (simp_all; omega)) | skip)
theorem w62 (n:Int) :
  Triple Try.prog 62 (s62 n):=by
 refine triple_of Try.func62 rfl Try.call62 T0_ok _ rfl rfl rfl rfl (Nat.le_of_ble_eq_true (by kernel_rfl)) (fun _ _ _ _ h=>h) ?_
 intro _ C hC _ hE
 obtain ⟨P,w0,E0,av,hA⟩:=C
 subst hC
 refine swp_seq ?_
 refine sQ (kt:=[0]) (kh:=[]) (q:=True/\True) (st':=ASt.mk [(0,iv n)] [] 8) ⟨tv,tv⟩ ?_
 refine swp_seq ?_
 refine sC (cs:=[(1,CallSpec.eq (s97 n 0 99) [true,true,true])]) (kt:=[2]) (kh:=[]) (q:=True/\((iv n=iv n/\iv 0=iv 0/\iv 99=iv 99/\True)/\Triple Try.prog 97 (s97 n 0 99)/\True/\True /\ ∀ (i0:Env),True)/\True/\True) (st':=ASt.mk [(2,bv (within n 0 99))] [] 32) ⟨tv,⟨⟨rfl,rfl,rfl,tv⟩,(t97 (n) (0) (99)),tv,tv,(fun i0=>tv)⟩,tv,tv⟩ ?_
 refine swp_ret ?_
 exact rQ [] ((True/\True)/\(zM (bv (within n 0 99)))/\T3) ⟨⟨tv,tv⟩,⟨rfl,rfl⟩,rfl,rfl,rfl⟩
theorem t62 (n:Int):Triple Try.prog 62 (s62 n):=by
 apply w62
 all_goals (first | ((repeat intro _) <;> (try simp only [v0,v1,v2,v3,v4,v5,v6,v7,v8,v9,inI,fits,Go.Sh.small] at *) <;> first | (exact rfl) | omega | exact vz | (simp_all; done) | (simp_all; omega)) | skip)
theorem w106 (n:Int) :
  Triple Try.prog 106 (s106 n):=by
 refine triple_of Try.func106 rfl Try.call106 T0_ok _ rfl rfl rfl rfl (Nat.le_of_ble_eq_true (by kernel_rfl)) (fun _ _ _ _ h=>h) ?_
 intro _ C hC _ hE
 obtain ⟨P,w0,E0,av,hA⟩:=C
 subst hC
 refine swp_seq ?_
 refine sQ (kt:=[0]) (kh:=[]) (q:=True/\True) (st':=ASt.mk [(0,iv n)] [] 8) ⟨tv,tv⟩ ?_
 refine swp_seq ?_
 refine sC (cs:=[(1,CallSpec.eq (s130 n 0 99) [true,true,true])]) (kt:=[2]) (kh:=[]) (q:=True/\((iv n=iv n/\iv 0=iv 0/\iv 99=iv 99/\True)/\Triple Try.prog 130 (s130 n 0 99)/\True/\True /\ ∀ (i0:Env),True)/\True/\True) (st':=ASt.mk [(2,bv (within n 0 99))] [] 32) ⟨tv,⟨⟨rfl,rfl,rfl,tv⟩,(t130 (n) (0) (99)),tv,tv,(fun i0=>tv)⟩,tv,tv⟩ ?_
 refine swp_ret ?_
 exact rQ [] ((True/\True)/\(zM (bv (within n 0 99)))/\T3) ⟨⟨tv,tv⟩,⟨rfl,rfl⟩,rfl,rfl,rfl⟩
theorem t106 (n:Int):Triple Try.prog 106 (s106 n):=by
 apply w106
 all_goals (first | ((repeat intro _) <;> (try simp only [v0,v1,v2,v3,v4,v5,v6,v7,v8,v9,inI,fits,Go.Sh.small] at *) <;> first | (exact rfl) | omega | exact vz | (simp_all; done) | (simp_all; omega)) | skip)
theorem w58 (n:Int) :
  Triple Try.prog 58 (s58 n):=by
 refine triple_of Try.func58 rfl Try.call58 T0_ok _ rfl rfl rfl rfl (Nat.le_of_ble_eq_true (by kernel_rfl)) (fun _ _ _ _ h=>h) ?_
 intro _ C hC _ hE
 obtain ⟨P,w0,E0,av,hA⟩:=C
 subst hC
 refine swp_seq ?_
 refine sQ (kt:=[0]) (kh:=[]) (q:=True/\True) (st':=ASt.mk [(0,iv n)] [] 8) ⟨tv,tv⟩ ?_
 refine swp_seq ?_
 refine sC (cs:=[(1,CallSpec.eq (s97 n 0 2) [true,true,true])]) (kt:=[2]) (kh:=[]) (q:=True/\((iv n=iv n/\iv 0=iv 0/\iv 2=iv 2/\True)/\Triple Try.prog 97 (s97 n 0 2)/\True/\True /\ ∀ (i0:Env),True)/\True/\True) (st':=ASt.mk [(2,bv (within n 0 2))] [] 32) ⟨tv,⟨⟨rfl,rfl,rfl,tv⟩,(t97 (n) (0) (2)),tv,tv,(fun i0=>tv)⟩,tv,tv⟩ ?_
 refine swp_ret ?_
 exact rQ [] ((True/\True)/\(zM (bv (within n 0 2)))/\T3) ⟨⟨tv,tv⟩,⟨rfl,rfl⟩,rfl,rfl,rfl⟩
theorem t58 (n:Int):Triple Try.prog 58 (s58 n):=by
 apply w58
 all_goals (first | ((repeat intro _) <;> (try simp only [v0,v1,v2,v3,v4,v5,v6,v7,v8,v9,inI,fits,Go.Sh.small] at *) <;> first | (exact rfl) | omega | exact vz | (simp_all; done) | (simp_all; omega)) | skip)
theorem w103 (n:Int) :
  Triple Try.prog 103 (s103 n):=by
 refine triple_of Try.func103 rfl Try.call103 T0_ok _ rfl rfl rfl rfl (Nat.le_of_ble_eq_true (by kernel_rfl)) (fun _ _ _ _ h=>h) ?_
 intro _ C hC _ hE
 obtain ⟨P,w0,E0,av,hA⟩:=C
 subst hC
 refine swp_seq ?_
 refine sQ (kt:=[0]) (kh:=[]) (q:=True/\True) (st':=ASt.mk [(0,iv n)] [] 8) ⟨tv,tv⟩ ?_
 refine swp_seq ?_
 refine sC (cs:=[(1,CallSpec.eq (s130 n 0 2) [true,true,true])]) (kt:=[2]) (kh:=[]) (q:=True/\((iv n=iv n/\iv 0=iv 0/\iv 2=iv 2/\True)/\Triple Try.prog 130 (s130 n 0 2)/\True/\True /\ ∀ (i0:Env),True)/\True/\True) (st':=ASt.mk [(2,bv (within n 0 2))] [] 32) ⟨tv,⟨⟨rfl,rfl,rfl,tv⟩,(t130 (n) (0) (2)),tv,tv,(fun i0=>tv)⟩,tv,tv⟩ ?_
 refine swp_ret ?_
 exact rQ [] ((True/\True)/\(zM (bv (within n 0 2)))/\T3) ⟨⟨tv,tv⟩,⟨rfl,rfl⟩,rfl,rfl,rfl⟩
theorem t103 (n:Int):Triple Try.prog 103 (s103 n):=by
 apply w103
 all_goals (first | ((repeat intro _) <;> (try simp only [v0,v1,v2,v3,v4,v5,v6,v7,v8,v9,inI,fits,Go.Sh.small] at *) <;> first | (exact rfl) | omega | exact vz | (simp_all; done) | (simp_all; omega)) | skip)
theorem w124 (h:Hs) (n:Int)
  (o0:fitsH h->inI ((↑((Hs.things h).length):Int) - 1))
  (o1:fitsH h->within n 0 ((↑((Hs.things h).length):Int) - 1)=isThing h n) :
  Triple Try.prog 124 (s124 h n):=by
 refine triple_of Try.func124 rfl Try.call124 T0_ok _ rfl rfl rfl rfl (Nat.le_of_ble_eq_true (by kernel_rfl)) (fun _ _ _ _ h=>h) ?_
 intro hp C hC _ hE
 obtain ⟨P,w0,E0,av,hA⟩:=C
 subst hC
 refine swp_seq ?_
 refine sQ (kt:=[1,2]) (kh:=[0]) (q:=tn 2) (st':=ASt.mk [(1,iv n),(2,.ptr 0 [])] [(0,.cells 80 (cHs h))] 16) (tp 2) ?_
 refine swp_seq ?_
 refine sC (cs:=[(5,CallSpec.eq (s97 n 0 ((↑((Hs.things h).length):Int) - 1)) [true,true,true])]) (kt:=[4]) (kh:=[]) (q:=True/\True/\True/\True/\inI ((↑((Hs.things h).length):Int) - 1)/\((iv n=iv n/\iv 0=iv 0/\zE (iv ((↑((Hs.things h).length):Int) - 1))/\True)/\Triple Try.prog 97 (s97 n 0 ((↑((Hs.things h).length):Int) - 1))/\True/\True /\ ∀ (i0:Env),True)/\True/\True) (st':=ASt.mk [(4,bv (within n 0 ((↑((Hs.things h).length):Int) - 1)))] [] 72) ⟨tv,tv,tv,tv,(o0 hp),⟨⟨rfl,rfl,rfl,tv⟩,(t97 (n) (0) ((↑((Hs.things h).length):Int) - 1)),tv,tv,(fun i0=>tv)⟩,tv,tv⟩ ?_
 refine swp_ret ?_
 exact rQ [] ((True/\True)/\(zN (bv (within n 0 ((↑((Hs.things h).length):Int) - 1))) (bv (isThing h n)))/\T3) ⟨⟨tv,tv⟩,⟨(congrArg bv (o1 hp)),rfl⟩,rfl,rfl,rfl⟩
theorem isThing_iff {h:Hs} {n:Int}:isThing h n=true ↔ 0<=n/\n < h.things.length:=by
 simp only [isThing,Go.Sh.within_iff]; omega
theorem t124 (h:Hs) (n:Int):Triple Try.prog 124 (s124 h n):=by
 apply w124
 case o0=>intro h; have:=h.1; exact ⟨by omega,by omega⟩
 all_goals (first | ((repeat intro _) <;> (try simp only [v0,v1,v2,v3,v4,v5,v6,v7,v8,v9,inI,fits,Go.Sh.small] at *) <;> first | (exact rfl) | omega | exact vz | (simp_all; done) | (simp_all; omega)) | skip)
theorem w102 (h:Hs) (n:Int)
  (o0:fitsH h->inI ((↑((Hs.things h).length):Int) - 1))
  (o1:fitsH h->within n 0 ((↑((Hs.things h).length):Int) - 1)=isThing h n) :
  Triple Try.prog 102 (s102 h n):=by
 refine triple_of Try.func102 rfl Try.call102 T0_ok _ rfl rfl rfl rfl (Nat.le_of_ble_eq_true (by kernel_rfl)) (fun _ _ _ _ h=>h) ?_
 intro hp C hC _ hE
 obtain ⟨P,w0,E0,av,hA⟩:=C
 subst hC
 refine swp_seq ?_
 refine sQ (kt:=[1,2]) (kh:=[0]) (q:=tn 2) (st':=ASt.mk [(1,iv n),(2,.ptr 0 [])] [(0,.cells 80 (cHs h))] 16) (tp 2) ?_
 refine swp_seq ?_
 refine sC (cs:=[(5,CallSpec.eq (s130 n 0 ((↑((Hs.things h).length):Int) - 1)) [true,true,true])]) (kt:=[4]) (kh:=[]) (q:=True/\True/\True/\True/\inI ((↑((Hs.things h).length):Int) - 1)/\((iv n=iv n/\iv 0=iv 0/\zE (iv ((↑((Hs.things h).length):Int) - 1))/\True)/\Triple Try.prog 130 (s130 n 0 ((↑((Hs.things h).length):Int) - 1))/\True/\True /\ ∀ (i0:Env),True)/\True/\True) (st':=ASt.mk [(4,bv (within n 0 ((↑((Hs.things h).length):Int) - 1)))] [] 72) ⟨tv,tv,tv,tv,(o0 hp),⟨⟨rfl,rfl,rfl,tv⟩,(t130 (n) (0) ((↑((Hs.things h).length):Int) - 1)),tv,tv,(fun i0=>tv)⟩,tv,tv⟩ ?_
 refine swp_ret ?_
 exact rQ [] ((True/\True)/\(zN (bv (within n 0 ((↑((Hs.things h).length):Int) - 1))) (bv (isThing h n)))/\T3) ⟨⟨tv,tv⟩,⟨(congrArg bv (o1 hp)),rfl⟩,rfl,rfl,rfl⟩
theorem t102 (h:Hs) (n:Int):Triple Try.prog 102 (s102 h n):=by
 apply w102
 case o0=>intro h; have:=h.1; exact ⟨by omega,by omega⟩
 all_goals (first | ((repeat intro _) <;> (try simp only [v0,v1,v2,v3,v4,v5,v6,v7,v8,v9,inI,fits,Go.Sh.small] at *) <;> first | (exact rfl) | omega | exact vz | (simp_all; done) | (simp_all; omega)) | skip)
theorem w56 (h:Hs)
  (o0:fitsH h->decide (40 < (↑((Hs.things h).length):Int))=false->(!decide (40 < (↑((Hs.things h).length):Int)))=true)
  (o1:fitsH h->(bif decide (40 < (↑((Hs.things h).length):Int)) then true else decide (40 < (↑((Hs.marks h).length):Int)))=far7 h) :
  Triple Try.prog 56 (s56 h):=by
 refine triple_of Try.func56 rfl Try.call56 T0_ok _ rfl rfl rfl rfl (Nat.le_of_ble_eq_true (by kernel_rfl)) (fun _ _ _ _ h=>h) ?_
 intro hp C hC _ hE
 obtain ⟨P,w0,E0,av,hA⟩:=C
 subst hC
 refine swp_seq ?_
 refine sQ (kt:=[1]) (kh:=[0]) (q:=tn 2) (st':=ASt.mk [(1,.ptr 0 [])] [(0,.cells 80 (cHs h))] 16) (tp 2) ?_
 refine swp_seq ?_
 refine sQ (kt:=[2]) (kh:=[]) (q:=True/\True/\True/\True/\True/\((!decide (40 < (↑((Hs.things h).length):Int)))->(True/\True)/\True)/\((!decide (40 < (↑((Hs.things h).length):Int)))->(((!decide (40 < (↑((Hs.things h).length):Int)))->(!decide (40 < (↑((Hs.things h).length):Int)))=true)/\True)/\True)/\((!decide (40 < (↑((Hs.things h).length):Int)))->(((!decide (40 < (↑((Hs.things h).length):Int)))->(!decide (40 < (↑((Hs.things h).length):Int)))=true)/\True)/\True)/\((!decide (40 < (↑((Hs.things h).length):Int)))->(((!decide (40 < (↑((Hs.things h).length):Int)))->(!decide (40 < (↑((Hs.things h).length):Int)))=true)/\True/\True)/\True)/\((decide (40 < (↑((Hs.things h).length):Int))=true->True)/\(decide (40 < (↑((Hs.things h).length):Int))=false->(!decide (40 < (↑((Hs.things h).length):Int)))=true))/\True/\True) (st':=ASt.mk [(2,bv (bif decide (40 < (↑((Hs.things h).length):Int)) then true else decide (40 < (↑((Hs.marks h).length):Int))))] [] 104) ⟨tv,tv,tv,tv,tv,(fun h0=>⟨⟨tv,tv⟩,tv⟩),(fun h1=>⟨⟨(fun h2=>h1),tv⟩,tv⟩),(fun h3=>⟨⟨(fun h4=>h3),tv⟩,tv⟩),(fun h5=>⟨⟨(fun h6=>h5),tv,tv⟩,tv⟩),⟨(fun h7=>tv),(fun h8=>(o0 hp h8))⟩,tv,tv⟩ ?_
 refine swp_ret ?_
 exact rQ [] ((True/\True)/\(zN (bv (bif decide (40 < (↑((Hs.things h).length):Int)) then true else decide (40 < (↑((Hs.marks h).length):Int)))) (bv (far7 h)))/\T3) ⟨⟨tv,tv⟩,⟨(congrArg bv (o1 hp)),rfl⟩,rfl,rfl,rfl⟩
theorem t56 (h:Hs):Triple Try.prog 56 (s56 h):=by
 apply w56
 all_goals (first | ((repeat intro _) <;> (try simp only [v0,v1,v2,v3,v4,v5,v6,v7,v8,v9,inI,fits,Go.Sh.small] at *) <;> first | (exact rfl) | omega | exact vz | (simp_all; done) | (simp_all; omega)) | skip)
theorem w98 (h:Hs) (m:Mrk)
 (o0:fitsH h->(bif within (Mrk.ch m) 0 2 then isThing h (Mrk.th m) else false)=true->0<=Mrk.th m)
 (o1:fitsH h->(bif within (Mrk.ch m) 0 2 then isThing h (Mrk.th m) else false)=true->Mrk.th m < (↑((Hs.things h).length):Int))
 (o2:fitsH h->(bif bif within (Mrk.ch m) 0 2 then isThing h (Mrk.th m) else false then within (Mrk.at_ m) (Thg.at_ (thg h (Mrk.th m).toNat)) 99 else false)=okM h m) :
  Triple Try.prog 98 (s98 h m):=by
 refine triple_of Try.func98 rfl Try.call98 T0_ok _ rfl rfl rfl rfl (Nat.le_of_ble_eq_true (by kernel_rfl)) (fun _ _ _ _ h=>h) ?_
 intro hp C hC _ hE
 obtain ⟨P,w0,E0,av,hA⟩:=C
 subst hC
 refine swp_seq ?_
 refine sQ (kt:=[2,3]) (kh:=[0,8]) (q:=tn 3) (st':=ASt.mk [(2,.ptr 0 []),(3,.ptr 8 [])] [(0,.cells 80 (cHs h)),(8,.cells 126 (cMrk m))] 24) (tp 3) ?_
 refine swp_seq ?_
 refine sC (cs:=[(2,CallSpec.eq (s58 (Mrk.ch m)) [true]),(7,CallSpec.eq (s124 h (Mrk.th m)) [true,true]),(19,CallSpec.eq (s97 (Mrk.at_ m) (Thg.at_ (thg h (Mrk.th m).toNat)) 99) [true,true,true])]) (kt:=[4]) (kh:=[]) (q:=True/\True/\((zE (iv (Mrk.ch m))/\True)/\Triple Try.prog 58 (s58 (Mrk.ch m))/\True/\True /\ ∀ (i0:Env),True)/\True/\(within (Mrk.ch m) 0 2=true->(True/\True)/\True)/\(within (Mrk.ch m) 0 2=true->(True/\True)/\True)/\(within (Mrk.ch m) 0 2=true->((within (Mrk.ch m) 0 2=true->within (Mrk.ch m) 0 2=true)/\True)/\True)/\(within (Mrk.ch m) 0 2=true->(True/\(within (Mrk.ch m) 0 2=true->within (Mrk.ch m) 0 2=true)/\(within (Mrk.ch m) 0 2=true->within (Mrk.ch m) 0 2=true)/\True)/\(zE (AV.agg (cHs h))/\zE (iv (Mrk.th m))/\True)/\Triple Try.prog 124 (s124 h (Mrk.th m))/\fitsH h/\True /\ ∀ (i8:Env),True)/\((within (Mrk.ch m) 0 2=true->within (Mrk.ch m) 0 2=true)/\(within (Mrk.ch m) 0 2=false->True))/\True/\((bif within (Mrk.ch m) 0 2 then isThing h (Mrk.th m) else false)=true->(True/\True)/\True)/\((bif within (Mrk.ch m) 0 2 then isThing h (Mrk.th m) else false)=true->(((bif within (Mrk.ch m) 0 2 then isThing h (Mrk.th m) else false)=true->(bif within (Mrk.ch m) 0 2 then isThing h (Mrk.th m) else false)=true)/\True)/\True)/\((bif within (Mrk.ch m) 0 2 then isThing h (Mrk.th m) else false)=true->(True/\True)/\True)/\((bif within (Mrk.ch m) 0 2 then isThing h (Mrk.th m) else false)=true->(((bif within (Mrk.ch m) 0 2 then isThing h (Mrk.th m) else false)=true->(bif within (Mrk.ch m) 0 2 then isThing h (Mrk.th m) else false)=true)/\True)/\True)/\((bif within (Mrk.ch m) 0 2 then isThing h (Mrk.th m) else false)=true->(True/\True)/\True)/\((bif within (Mrk.ch m) 0 2 then isThing h (Mrk.th m) else false)=true->(((bif within (Mrk.ch m) 0 2 then isThing h (Mrk.th m) else false)=true->(bif within (Mrk.ch m) 0 2 then isThing h (Mrk.th m) else false)=true)/\True)/\True)/\((bif within (Mrk.ch m) 0 2 then isThing h (Mrk.th m) else false)=true->(((bif within (Mrk.ch m) 0 2 then isThing h (Mrk.th m) else false)=true->(bif within (Mrk.ch m) 0 2 then isThing h (Mrk.th m) else false)=true)/\((bif within (Mrk.ch m) 0 2 then isThing h (Mrk.th m) else false)=true->(bif within (Mrk.ch m) 0 2 then isThing h (Mrk.th m) else false)=true)/\True)/\0<=Mrk.th m/\Mrk.th m < (↑((Hs.things h).length):Int))/\((bif within (Mrk.ch m) 0 2 then isThing h (Mrk.th m) else false)=true->(((bif within (Mrk.ch m) 0 2 then isThing h (Mrk.th m) else false)=true->(bif within (Mrk.ch m) 0 2 then isThing h (Mrk.th m) else false)=true)/\True)/\True)/\((bif within (Mrk.ch m) 0 2 then isThing h (Mrk.th m) else false)=true->(((bif within (Mrk.ch m) 0 2 then isThing h (Mrk.th m) else false)=true->(bif within (Mrk.ch m) 0 2 then isThing h (Mrk.th m) else false)=true)/\True)/\True)/\((bif within (Mrk.ch m) 0 2 then isThing h (Mrk.th m) else false)=true->(True/\((bif within (Mrk.ch m) 0 2 then isThing h (Mrk.th m) else false)=true->(bif within (Mrk.ch m) 0 2 then isThing h (Mrk.th m) else false)=true)/\((bif within (Mrk.ch m) 0 2 then isThing h (Mrk.th m) else false)=true->(bif within (Mrk.ch m) 0 2 then isThing h (Mrk.th m) else false)=true)/\True/\True)/\(zE (iv (Mrk.at_ m))/\zE (iv (Thg.at_ (thg h (Mrk.th m).toNat)))/\iv 99=iv 99/\True)/\Triple Try.prog 97 (s97 (Mrk.at_ m) (Thg.at_ (thg h (Mrk.th m).toNat)) 99)/\True/\True /\ ∀ (i30:Env),True)/\(((bif within (Mrk.ch m) 0 2 then isThing h (Mrk.th m) else false)=true->(bif within (Mrk.ch m) 0 2 then isThing h (Mrk.th m) else false)=true)/\((bif within (Mrk.ch m) 0 2 then isThing h (Mrk.th m) else false)=false->True))/\True/\True) (st':=ASt.mk [(4,bv (bif bif within (Mrk.ch m) 0 2 then isThing h (Mrk.th m) else false then within (Mrk.at_ m) (Thg.at_ (thg h (Mrk.th m).toNat)) 99 else false))] [] 200) ⟨tv,tv,⟨⟨rfl,tv⟩,(t58 (Mrk.ch m)),tv,tv,(fun i0=>tv)⟩,tv,(fun h1=>⟨⟨tv,tv⟩,tv⟩),(fun h2=>⟨⟨tv,tv⟩,tv⟩),(fun h3=>⟨⟨(fun h4=>h3),tv⟩,tv⟩),(fun h5=>⟨⟨tv,(fun h6=>h5),(fun h7=>h5),tv⟩,⟨rfl,rfl,tv⟩,(t124 (h) (Mrk.th m)),hp,tv,(fun i8=>tv)⟩),⟨(fun h9=>h9),(fun h10=>tv)⟩,tv,(fun h11=>⟨⟨tv,tv⟩,tv⟩),(fun h12=>⟨⟨(fun h13=>h12),tv⟩,tv⟩),(fun h14=>⟨⟨tv,tv⟩,tv⟩),(fun h15=>⟨⟨(fun h16=>h15),tv⟩,tv⟩),(fun h17=>⟨⟨tv,tv⟩,tv⟩),(fun h18=>⟨⟨(fun h19=>h18),tv⟩,tv⟩),(fun h20=>⟨⟨(fun h21=>h20),(fun h22=>h20),tv⟩,(o0 hp h20),(o1 hp h20)⟩),(fun h23=>⟨⟨(fun h24=>h23),tv⟩,tv⟩),(fun h25=>⟨⟨(fun h26=>h25),tv⟩,tv⟩),(fun h27=>⟨⟨tv,(fun h28=>h27),(fun h29=>h27),tv,tv⟩,⟨rfl,rfl,rfl,tv⟩,(t97 (Mrk.at_ m) (Thg.at_ (thg h (Mrk.th m).toNat)) (99)),tv,tv,(fun i30=>tv)⟩),⟨(fun h31=>h31),(fun h32=>tv)⟩,tv,tv⟩ ?_
 refine swp_ret ?_
 exact rQ [] ((True/\True)/\(zN (bv (bif bif within (Mrk.ch m) 0 2 then isThing h (Mrk.th m) else false then within (Mrk.at_ m) (Thg.at_ (thg h (Mrk.th m).toNat)) 99 else false)) (bv (okM h m)))/\T3) ⟨⟨tv,tv⟩,⟨(congrArg bv (o2 hp)),rfl⟩,rfl,rfl,rfl⟩
theorem t98 (h:Hs) (m:Mrk):Triple Try.prog 98 (s98 h m):=by
 apply w98
 case o0 | o1=>intro _ hh; simp only [Bool.cond_false_right,Bool.and_eq_true,isThing_iff] at hh; omega
 all_goals (first | ((repeat intro _) <;> (try simp only [v0,v1,v2,v3,v4,v5,v6,v7,v8,v9,inI,fits,Go.Sh.small] at *) <;> first | (exact rfl) | omega | exact vz | (simp_all; done) | (simp_all; omega)) | skip)
abbrev z57_1 (h:Hs):LoopAnn:=Hint.ann (h57a h) [(1,AV.ptr 0 [])] [(0,OB.cells 80 (cHs h))] 10104
abbrev z57_2 (h:Hs):LoopAnn:=Hint.ann (h57b h) [(1,AV.ptr 0 [])] [(0,OB.cells 80 (cHs h))] 20152
abbrev q57_1 (h:Hs) (C:Prop):Prop:=fitsH h->(bif decide (8 < (↑((Hs.things h).length):Int)) then true else decide (6 < (↑((Hs.marks h).length):Int)))=false->C
abbrev q57_2 (h:Hs) (C:Nat->Prop):Prop:=q57_1 h (∀ (x10:Nat),(x10<=(Hs.things h).length /\ ∀ (j:Nat),j < x10->okT h j=true)->decide ((x10:Int) < (↑((Hs.things h).length):Int))=true->C x10)
abbrev q57_3 (h:Hs) (C:Nat->Prop):Prop:=q57_2 h fun x10=>((!bif !within (Thg.off (thg h x10)) (-1) ((x10:Int) - 1) then true else !within (Thg.at_ (thg h x10)) 0 99) && !decide (Thg.off (thg h x10) = -1))=true->C x10
abbrev q57_4 (h:Hs) (C:Nat->Prop):Prop:=q57_2 h fun x10=>(bif bif bif bif !within (Thg.off (thg h x10)) (-1) ((x10:Int) - 1) then true else !within (Thg.at_ (thg h x10)) 0 99 then true else bif !decide (Thg.off (thg h x10) = -1) then decide (Thg.at_ (thg h x10) < Thg.at_ (thg h (Thg.off (thg h x10)).toNat)) else false then true else !within (Thg.cost (thg h x10)) 0 99 then true else !within (Thg.prints (thg h x10)) 0 1)=false->C x10
abbrev q57_5 (h:Hs) (C:Nat->Prop):Prop:=q57_1 h (∀ (x10:Nat),(x10<=(Hs.things h).length /\ ∀ (j:Nat),j < x10->okT h j=true)->decide ((x10:Int) < (↑((Hs.things h).length):Int))=false->C x10)
abbrev q57_6 (h:Hs) (C:Nat->Nat->Prop):Prop:=q57_5 h fun x10 => ∀ (x76:Nat),(x76<=(Hs.marks h).length /\ ∀ (j:Nat),j < x76->okM h ((Hs.marks h).getD j default)=true)->decide ((x76:Int) < (↑((Hs.marks h).length):Int))=true->C x10 x76
abbrev q57_7 (h:Hs) (C:Nat->Nat->Prop):Prop:=q57_6 h fun x10 x76=>(!okM h ((Hs.marks h).getD x76 default))=false->C x10 x76
theorem w57 (h:Hs)
 (o0:fitsH h->decide (8 < (↑((Hs.things h).length):Int))=false->(!decide (8 < (↑((Hs.things h).length):Int)))=true)
 (o1:fitsH h->(bif decide (8 < (↑((Hs.things h).length):Int)) then true else decide (6 < (↑((Hs.marks h).length):Int)))=true->70=check7 h)
 (o2:q57_1 h (0=(↑0:Int)))
 (o3:q57_1 h (0<=(Hs.things h).length /\ ∀ (j:Nat),j < 0->okT h j=true))
 (o4:q57_2 h fun x10=>0<=(x10:Int))
 (o5:q57_2 h fun x10=>(x10:Int) < (↑((Hs.things h).length):Int))
 (o6:q57_2 h fun x10=>inI ((x10:Int) - 1))
 (o7:q57_2 h fun x10=>(!within (Thg.off (thg h x10)) (-1) ((x10:Int) - 1))=false->(!!within (Thg.off (thg h x10)) (-1) ((x10:Int) - 1))=true)
 (o8:q57_3 h fun x10=>0<=Thg.off (thg h x10))
 (o9:q57_3 h fun x10=>Thg.off (thg h x10) < (↑((Hs.things h).length):Int))
 (o10:q57_2 h fun x10=>(!bif !within (Thg.off (thg h x10)) (-1) ((x10:Int) - 1) then true else !within (Thg.at_ (thg h x10)) 0 99)=true->(!decide (Thg.off (thg h x10) = -1))->((!bif !within (Thg.off (thg h x10)) (-1) ((x10:Int) - 1) then true else !within (Thg.at_ (thg h x10)) 0 99) && !decide (Thg.off (thg h x10) = -1))=true)
 (o11:q57_2 h fun x10=>(bif !within (Thg.off (thg h x10)) (-1) ((x10:Int) - 1) then true else !within (Thg.at_ (thg h x10)) 0 99)=false->(!bif !within (Thg.off (thg h x10)) (-1) ((x10:Int) - 1) then true else !within (Thg.at_ (thg h x10)) 0 99)=true)
 (o12:q57_2 h fun x10=>(bif bif !within (Thg.off (thg h x10)) (-1) ((x10:Int) - 1) then true else !within (Thg.at_ (thg h x10)) 0 99 then true else bif !decide (Thg.off (thg h x10) = -1) then decide (Thg.at_ (thg h x10) < Thg.at_ (thg h (Thg.off (thg h x10)).toNat)) else false)=false->(!bif bif !within (Thg.off (thg h x10)) (-1) ((x10:Int) - 1) then true else !within (Thg.at_ (thg h x10)) 0 99 then true else bif !decide (Thg.off (thg h x10) = -1) then decide (Thg.at_ (thg h x10) < Thg.at_ (thg h (Thg.off (thg h x10)).toNat)) else false)=true)
 (o13:q57_2 h fun x10=>(bif bif bif !within (Thg.off (thg h x10)) (-1) ((x10:Int) - 1) then true else !within (Thg.at_ (thg h x10)) 0 99 then true else bif !decide (Thg.off (thg h x10) = -1) then decide (Thg.at_ (thg h x10) < Thg.at_ (thg h (Thg.off (thg h x10)).toNat)) else false then true else !within (Thg.cost (thg h x10)) 0 99)=false->(!bif bif bif !within (Thg.off (thg h x10)) (-1) ((x10:Int) - 1) then true else !within (Thg.at_ (thg h x10)) 0 99 then true else bif !decide (Thg.off (thg h x10) = -1) then decide (Thg.at_ (thg h x10) < Thg.at_ (thg h (Thg.off (thg h x10)).toNat)) else false then true else !within (Thg.cost (thg h x10)) 0 99)=true)
 (o14:q57_2 h fun x10=>(bif bif bif bif !within (Thg.off (thg h x10)) (-1) ((x10:Int) - 1) then true else !within (Thg.at_ (thg h x10)) 0 99 then true else bif !decide (Thg.off (thg h x10) = -1) then decide (Thg.at_ (thg h x10) < Thg.at_ (thg h (Thg.off (thg h x10)).toNat)) else false then true else !within (Thg.cost (thg h x10)) 0 99 then true else !within (Thg.prints (thg h x10)) 0 1)=true->70=check7 h)
 (o15:q57_4 h fun x10=>inI ((x10:Int) + 1))
 (o16:q57_4 h fun x10=>(x10:Int) + 1=(↑(x10 + 1):Int))
 (o17:q57_4 h fun x10=>x10 + 1<=(Hs.things h).length /\ ∀ (j:Nat),j < x10 + 1->okT h j=true)
 (o18:q57_4 h fun x10=>(Hs.things h).length - (x10 + 1) < (Hs.things h).length - x10)
 (o19:q57_5 h fun x10=>0=(↑0:Int))
 (o20:q57_5 h fun x10=>0<=(Hs.marks h).length /\ ∀ (j:Nat),j < 0->okM h ((Hs.marks h).getD j default)=true)
 (o21:q57_6 h fun x10 x76=>0<=(x76:Int))
 (o22:q57_6 h fun x10 x76=>(x76:Int) < (↑((Hs.marks h).length):Int))
 (o23:q57_6 h fun x10 x76=>(!okM h ((Hs.marks h).getD x76 default))=true->70=check7 h)
 (o24:q57_7 h fun x10 x76=>inI ((x76:Int) + 1))
 (o25:q57_7 h fun x10 x76=>(x76:Int) + 1=(↑(x76 + 1):Int))
 (o26:q57_7 h fun x10 x76=>x76 + 1<=(Hs.marks h).length /\ ∀ (j:Nat),j < x76 + 1->okM h ((Hs.marks h).getD j default)=true)
 (o27:q57_7 h fun x10 x76=>(Hs.marks h).length - (x76 + 1) < (Hs.marks h).length - x76)
 (o28:q57_5 h fun x10 => ∀ (x76:Nat),(x76<=(Hs.marks h).length /\ ∀ (j:Nat),j < x76->okM h ((Hs.marks h).getD j default)=true)->decide ((x76:Int) < (↑((Hs.marks h).length):Int))=false->0=check7 h) :
  Triple Try.prog 57 (s57 h):=by
 refine triple_of Try.func57 rfl Try.call57 T0_ok _ rfl rfl rfl rfl (Nat.le_of_ble_eq_true (by kernel_rfl)) (fun _ _ _ _ h=>h) ?_
 intro hp C hC _ hE
 obtain ⟨P,w0,E0,av,hA⟩:=C
 subst hC
 refine swp_seq ?_
 refine sQ (kt:=[1]) (kh:=[0]) (q:=tn 2) (st':=ASt.mk [(1,.ptr 0 [])] [(0,.cells 80 (cHs h))] 16) (tp 2) ?_
 refine swp_seq (swp_seq ?_)
 refine sQ (kt:=[1,15]) (kh:=[0]) (q:=True/\True/\True/\True/\True/\((!decide (8 < (↑((Hs.things h).length):Int)))->(True/\True)/\True)/\((!decide (8 < (↑((Hs.things h).length):Int)))->(((!decide (8 < (↑((Hs.things h).length):Int)))->(!decide (8 < (↑((Hs.things h).length):Int)))=true)/\True)/\True)/\((!decide (8 < (↑((Hs.things h).length):Int)))->(((!decide (8 < (↑((Hs.things h).length):Int)))->(!decide (8 < (↑((Hs.things h).length):Int)))=true)/\True)/\True)/\((!decide (8 < (↑((Hs.things h).length):Int)))->(((!decide (8 < (↑((Hs.things h).length):Int)))->(!decide (8 < (↑((Hs.things h).length):Int)))=true)/\True/\True)/\True)/\((decide (8 < (↑((Hs.things h).length):Int))=true->True)/\(decide (8 < (↑((Hs.things h).length):Int))=false->(!decide (8 < (↑((Hs.things h).length):Int)))=true))/\True) (st':=ASt.mk [(1,.ptr 0 []),(15,bv (bif decide (8 < (↑((Hs.things h).length):Int)) then true else decide (6 < (↑((Hs.marks h).length):Int))))] [(0,.cells 80 (cHs h))] 96) ⟨tv,tv,tv,tv,tv,(fun h0=>⟨⟨tv,tv⟩,tv⟩),(fun h1=>⟨⟨(fun h2=>h1),tv⟩,tv⟩),(fun h3=>⟨⟨(fun h4=>h3),tv⟩,tv⟩),(fun h5=>⟨⟨(fun h6=>h5),tv,tv⟩,tv⟩),⟨(fun h7=>tv),(fun h8=>(o0 hp h8))⟩,tv⟩ ?_
 refine swp_cond (bif decide (8 < (↑((Hs.things h).length):Int)) then true else decide (6 < (↑((Hs.marks h).length):Int))) (by kernel_rfl) (fun h9 => ?_) (fun h9 => ?_)
 ·refine swp_seq ?_
  refine sQ (kt:=[2]) (kh:=[]) (q:=True/\True) (st':=ASt.mk [(2,iv 70)] [] 104) ⟨tv,tv⟩ ?_
  refine swp_ret ?_
  exact rQ [] ((True/\True)/\(zN (iv 70) (iv (check7 h)))/\T3) ⟨⟨tv,tv⟩,⟨(congrArg iv (o1 hp h9)),rfl⟩,rfl,rfl,rfl⟩
 ·refine swp_skip (swp_seq (swp_seq ?_))
  refine sQ (kt:=[1,3]) (kh:=[0]) (q:=True/\True) (st':=ASt.mk [(1,.ptr 0 []),(3,iv 0)] [(0,.cells 80 (cHs h))] 104) ⟨tv,tv⟩ ?_
  refine swp_block ?_
  refine swp_loopA (z57_1 h) (eQ hE [] [(0,.same 0)] [] [0] (((zP 0)/\(zN (iv 0) (iv (↑0:Int)))/\True)/\((zT (OB.cells 80 (cHs h)))/\True)/\T2) ⟨⟨⟨rfl,rfl⟩,⟨(congrArg iv (o2 hp h9)),rfl⟩,tv⟩,⟨⟨rfl,rfl⟩,tv⟩,rfl,rfl⟩) (o3 hp h9) (fun (x10:Nat) hx10 => ?_)
  refine swp_seq (swp_seq ?_)
  refine sQ (kt:=[1,3,20]) (kh:=[0]) (q:=tn 5) (st':=ASt.mk [(1,.ptr 0 []),(3,iv (x10:Int)),(20,bv (decide ((x10:Int) < (↑((Hs.things h).length):Int))))] [(0,.cells 80 (cHs h))] 10144) (tp 5) ?_
  refine swp_cond (decide ((x10:Int) < (↑((Hs.things h).length):Int))) (by kernel_rfl) (fun h11 => ?_) (fun h11 => ?_)
  ·refine swp_skip (swp_seq (swp_block (swp_seq ?_)))
   refine sQ (kt:=[1,3,4]) (kh:=[0,10184]) (q:=True/\True/\True/\(0<=(x10:Int)/\(x10:Int) < (↑((Hs.things h).length):Int))/\tn 3) (st':=ASt.mk [(1,.ptr 0 []),(3,iv (x10:Int)),(4,.ptr 10184 [])] [(0,.cells 80 (cHs h)),(10184,.cells 88 (cThg (thg h x10)))] 10200) ⟨tv,tv,tv,⟨(o4 hp h9 x10 hx10 h11),(o5 hp h9 x10 hx10 h11)⟩,tp 3⟩ ?_
   refine swp_seq ?_
   refine sC (cs:=[(4,CallSpec.eq (s97 (Thg.off (thg h x10)) (-1) ((x10:Int) - 1)) [true,true,true]),(9,CallSpec.eq (s62 (Thg.at_ (thg h x10))) [true]),(32,CallSpec.eq (s97 (Thg.cost (thg h x10)) 0 99) [true,true,true]),(38,CallSpec.eq (s97 (Thg.prints (thg h x10)) 0 1) [true,true,true])]) (kt:=[1,3,68]) (kh:=[0]) (q:=True/\True/\True/\inI ((x10:Int) - 1)/\((zE (iv (Thg.off (thg h x10)))/\zE (iv (-1))/\zE (iv ((x10:Int) - 1))/\True)/\Triple Try.prog 97 (s97 (Thg.off (thg h x10)) (-1) ((x10:Int) - 1))/\True/\True /\ ∀ (i12:Env),True)/\True/\True/\((!!within (Thg.off (thg h x10)) (-1) ((x10:Int) - 1))=true->(True/\True)/\True)/\((!!within (Thg.off (thg h x10)) (-1) ((x10:Int) - 1))=true->(((!!within (Thg.off (thg h x10)) (-1) ((x10:Int) - 1))=true->(!!within (Thg.off (thg h x10)) (-1) ((x10:Int) - 1))=true)/\True)/\True)/\((!!within (Thg.off (thg h x10)) (-1) ((x10:Int) - 1))=true->(True/\((!!within (Thg.off (thg h x10)) (-1) ((x10:Int) - 1))=true->(!!within (Thg.off (thg h x10)) (-1) ((x10:Int) - 1))=true)/\True)/\(zE (iv (Thg.at_ (thg h x10)))/\True)/\Triple Try.prog 62 (s62 (Thg.at_ (thg h x10)))/\True/\True /\ ∀ (i18:Env),True)/\((!!within (Thg.off (thg h x10)) (-1) ((x10:Int) - 1))=true->(((!!within (Thg.off (thg h x10)) (-1) ((x10:Int) - 1))=true->(!!within (Thg.off (thg h x10)) (-1) ((x10:Int) - 1))=true)/\True)/\True)/\(((!within (Thg.off (thg h x10)) (-1) ((x10:Int) - 1))=true->True)/\((!within (Thg.off (thg h x10)) (-1) ((x10:Int) - 1))=false->(!!within (Thg.off (thg h x10)) (-1) ((x10:Int) - 1))=true))/\True/\((!bif !within (Thg.off (thg h x10)) (-1) ((x10:Int) - 1) then true else !within (Thg.at_ (thg h x10)) 0 99)=true->(True/\True)/\True)/\((!bif !within (Thg.off (thg h x10)) (-1) ((x10:Int) - 1) then true else !within (Thg.at_ (thg h x10)) 0 99)=true->(((!bif !within (Thg.off (thg h x10)) (-1) ((x10:Int) - 1) then true else !within (Thg.at_ (thg h x10)) 0 99)=true->(!bif !within (Thg.off (thg h x10)) (-1) ((x10:Int) - 1) then true else !within (Thg.at_ (thg h x10)) 0 99)=true)/\True)/\True)/\((!bif !within (Thg.off (thg h x10)) (-1) ((x10:Int) - 1) then true else !within (Thg.at_ (thg h x10)) 0 99)=true->(((!bif !within (Thg.off (thg h x10)) (-1) ((x10:Int) - 1) then true else !within (Thg.at_ (thg h x10)) 0 99)=true->(!bif !within (Thg.off (thg h x10)) (-1) ((x10:Int) - 1) then true else !within (Thg.at_ (thg h x10)) 0 99)=true)/\True/\True)/\True)/\((!bif !within (Thg.off (thg h x10)) (-1) ((x10:Int) - 1) then true else !within (Thg.at_ (thg h x10)) 0 99)=true->(((!bif !within (Thg.off (thg h x10)) (-1) ((x10:Int) - 1) then true else !within (Thg.at_ (thg h x10)) 0 99)=true->(!bif !within (Thg.off (thg h x10)) (-1) ((x10:Int) - 1) then true else !within (Thg.at_ (thg h x10)) 0 99)=true)/\True)/\True)/\(((!bif !within (Thg.off (thg h x10)) (-1) ((x10:Int) - 1) then true else !within (Thg.at_ (thg h x10)) 0 99) && !decide (Thg.off (thg h x10) = -1))=true->(True/\True)/\True)/\(((!bif !within (Thg.off (thg h x10)) (-1) ((x10:Int) - 1) then true else !within (Thg.at_ (thg h x10)) 0 99) && !decide (Thg.off (thg h x10) = -1))=true->((((!bif !within (Thg.off (thg h x10)) (-1) ((x10:Int) - 1) then true else !within (Thg.at_ (thg h x10)) 0 99) && !decide (Thg.off (thg h x10) = -1))=true->((!bif !within (Thg.off (thg h x10)) (-1) ((x10:Int) - 1) then true else !within (Thg.at_ (thg h x10)) 0 99) && !decide (Thg.off (thg h x10) = -1))=true)/\True)/\True)/\(((!bif !within (Thg.off (thg h x10)) (-1) ((x10:Int) - 1) then true else !within (Thg.at_ (thg h x10)) 0 99) && !decide (Thg.off (thg h x10) = -1))=true->(True/\True)/\True)/\(((!bif !within (Thg.off (thg h x10)) (-1) ((x10:Int) - 1) then true else !within (Thg.at_ (thg h x10)) 0 99) && !decide (Thg.off (thg h x10) = -1))=true->((((!bif !within (Thg.off (thg h x10)) (-1) ((x10:Int) - 1) then true else !within (Thg.at_ (thg h x10)) 0 99) && !decide (Thg.off (thg h x10) = -1))=true->((!bif !within (Thg.off (thg h x10)) (-1) ((x10:Int) - 1) then true else !within (Thg.at_ (thg h x10)) 0 99) && !decide (Thg.off (thg h x10) = -1))=true)/\True)/\True)/\(((!bif !within (Thg.off (thg h x10)) (-1) ((x10:Int) - 1) then true else !within (Thg.at_ (thg h x10)) 0 99) && !decide (Thg.off (thg h x10) = -1))=true->(True/\True)/\True)/\(((!bif !within (Thg.off (thg h x10)) (-1) ((x10:Int) - 1) then true else !within (Thg.at_ (thg h x10)) 0 99) && !decide (Thg.off (thg h x10) = -1))=true->((((!bif !within (Thg.off (thg h x10)) (-1) ((x10:Int) - 1) then true else !within (Thg.at_ (thg h x10)) 0 99) && !decide (Thg.off (thg h x10) = -1))=true->((!bif !within (Thg.off (thg h x10)) (-1) ((x10:Int) - 1) then true else !within (Thg.at_ (thg h x10)) 0 99) && !decide (Thg.off (thg h x10) = -1))=true)/\True)/\True)/\(((!bif !within (Thg.off (thg h x10)) (-1) ((x10:Int) - 1) then true else !within (Thg.at_ (thg h x10)) 0 99) && !decide (Thg.off (thg h x10) = -1))=true->((((!bif !within (Thg.off (thg h x10)) (-1) ((x10:Int) - 1) then true else !within (Thg.at_ (thg h x10)) 0 99) && !decide (Thg.off (thg h x10) = -1))=true->((!bif !within (Thg.off (thg h x10)) (-1) ((x10:Int) - 1) then true else !within (Thg.at_ (thg h x10)) 0 99) && !decide (Thg.off (thg h x10) = -1))=true)/\(((!bif !within (Thg.off (thg h x10)) (-1) ((x10:Int) - 1) then true else !within (Thg.at_ (thg h x10)) 0 99) && !decide (Thg.off (thg h x10) = -1))=true->((!bif !within (Thg.off (thg h x10)) (-1) ((x10:Int) - 1) then true else !within (Thg.at_ (thg h x10)) 0 99) && !decide (Thg.off (thg h x10) = -1))=true)/\True)/\0<=Thg.off (thg h x10)/\Thg.off (thg h x10) < (↑((Hs.things h).length):Int))/\(((!bif !within (Thg.off (thg h x10)) (-1) ((x10:Int) - 1) then true else !within (Thg.at_ (thg h x10)) 0 99) && !decide (Thg.off (thg h x10) = -1))=true->((((!bif !within (Thg.off (thg h x10)) (-1) ((x10:Int) - 1) then true else !within (Thg.at_ (thg h x10)) 0 99) && !decide (Thg.off (thg h x10) = -1))=true->((!bif !within (Thg.off (thg h x10)) (-1) ((x10:Int) - 1) then true else !within (Thg.at_ (thg h x10)) 0 99) && !decide (Thg.off (thg h x10) = -1))=true)/\True)/\True)/\(((!bif !within (Thg.off (thg h x10)) (-1) ((x10:Int) - 1) then true else !within (Thg.at_ (thg h x10)) 0 99) && !decide (Thg.off (thg h x10) = -1))=true->((((!bif !within (Thg.off (thg h x10)) (-1) ((x10:Int) - 1) then true else !within (Thg.at_ (thg h x10)) 0 99) && !decide (Thg.off (thg h x10) = -1))=true->((!bif !within (Thg.off (thg h x10)) (-1) ((x10:Int) - 1) then true else !within (Thg.at_ (thg h x10)) 0 99) && !decide (Thg.off (thg h x10) = -1))=true)/\True)/\True)/\(((!bif !within (Thg.off (thg h x10)) (-1) ((x10:Int) - 1) then true else !within (Thg.at_ (thg h x10)) 0 99) && !decide (Thg.off (thg h x10) = -1))=true->((((!bif !within (Thg.off (thg h x10)) (-1) ((x10:Int) - 1) then true else !within (Thg.at_ (thg h x10)) 0 99) && !decide (Thg.off (thg h x10) = -1))=true->((!bif !within (Thg.off (thg h x10)) (-1) ((x10:Int) - 1) then true else !within (Thg.at_ (thg h x10)) 0 99) && !decide (Thg.off (thg h x10) = -1))=true)/\(((!bif !within (Thg.off (thg h x10)) (-1) ((x10:Int) - 1) then true else !within (Thg.at_ (thg h x10)) 0 99) && !decide (Thg.off (thg h x10) = -1))=true->((!bif !within (Thg.off (thg h x10)) (-1) ((x10:Int) - 1) then true else !within (Thg.at_ (thg h x10)) 0 99) && !decide (Thg.off (thg h x10) = -1))=true)/\True)/\True)/\((!bif !within (Thg.off (thg h x10)) (-1) ((x10:Int) - 1) then true else !within (Thg.at_ (thg h x10)) 0 99)=true->(((!bif !within (Thg.off (thg h x10)) (-1) ((x10:Int) - 1) then true else !within (Thg.at_ (thg h x10)) 0 99)=true->(!bif !within (Thg.off (thg h x10)) (-1) ((x10:Int) - 1) then true else !within (Thg.at_ (thg h x10)) 0 99)=true)/\True)/\((!decide (Thg.off (thg h x10) = -1))->((!bif !within (Thg.off (thg h x10)) (-1) ((x10:Int) - 1) then true else !within (Thg.at_ (thg h x10)) 0 99) && !decide (Thg.off (thg h x10) = -1))=true)/\((!decide (Thg.off (thg h x10) = -1))=false->True))/\(((bif !within (Thg.off (thg h x10)) (-1) ((x10:Int) - 1) then true else !within (Thg.at_ (thg h x10)) 0 99)=true->True)/\((bif !within (Thg.off (thg h x10)) (-1) ((x10:Int) - 1) then true else !within (Thg.at_ (thg h x10)) 0 99)=false->(!bif !within (Thg.off (thg h x10)) (-1) ((x10:Int) - 1) then true else !within (Thg.at_ (thg h x10)) 0 99)=true))/\True/\((!bif bif !within (Thg.off (thg h x10)) (-1) ((x10:Int) - 1) then true else !within (Thg.at_ (thg h x10)) 0 99 then true else bif !decide (Thg.off (thg h x10) = -1) then decide (Thg.at_ (thg h x10) < Thg.at_ (thg h (Thg.off (thg h x10)).toNat)) else false)=true->(True/\True)/\True)/\((!bif bif !within (Thg.off (thg h x10)) (-1) ((x10:Int) - 1) then true else !within (Thg.at_ (thg h x10)) 0 99 then true else bif !decide (Thg.off (thg h x10) = -1) then decide (Thg.at_ (thg h x10) < Thg.at_ (thg h (Thg.off (thg h x10)).toNat)) else false)=true->(((!bif bif !within (Thg.off (thg h x10)) (-1) ((x10:Int) - 1) then true else !within (Thg.at_ (thg h x10)) 0 99 then true else bif !decide (Thg.off (thg h x10) = -1) then decide (Thg.at_ (thg h x10) < Thg.at_ (thg h (Thg.off (thg h x10)).toNat)) else false)=true->(!bif bif !within (Thg.off (thg h x10)) (-1) ((x10:Int) - 1) then true else !within (Thg.at_ (thg h x10)) 0 99 then true else bif !decide (Thg.off (thg h x10) = -1) then decide (Thg.at_ (thg h x10) < Thg.at_ (thg h (Thg.off (thg h x10)).toNat)) else false)=true)/\True)/\True)/\((!bif bif !within (Thg.off (thg h x10)) (-1) ((x10:Int) - 1) then true else !within (Thg.at_ (thg h x10)) 0 99 then true else bif !decide (Thg.off (thg h x10) = -1) then decide (Thg.at_ (thg h x10) < Thg.at_ (thg h (Thg.off (thg h x10)).toNat)) else false)=true->(True/\((!bif bif !within (Thg.off (thg h x10)) (-1) ((x10:Int) - 1) then true else !within (Thg.at_ (thg h x10)) 0 99 then true else bif !decide (Thg.off (thg h x10) = -1) then decide (Thg.at_ (thg h x10) < Thg.at_ (thg h (Thg.off (thg h x10)).toNat)) else false)=true->(!bif bif !within (Thg.off (thg h x10)) (-1) ((x10:Int) - 1) then true else !within (Thg.at_ (thg h x10)) 0 99 then true else bif !decide (Thg.off (thg h x10) = -1) then decide (Thg.at_ (thg h x10) < Thg.at_ (thg h (Thg.off (thg h x10)).toNat)) else false)=true)/\True/\True/\True)/\(zE (iv (Thg.cost (thg h x10)))/\iv 0=iv 0/\iv 99=iv 99/\True)/\Triple Try.prog 97 (s97 (Thg.cost (thg h x10)) 0 99)/\True/\True /\ ∀ (i60:Env),True)/\((!bif bif !within (Thg.off (thg h x10)) (-1) ((x10:Int) - 1) then true else !within (Thg.at_ (thg h x10)) 0 99 then true else bif !decide (Thg.off (thg h x10) = -1) then decide (Thg.at_ (thg h x10) < Thg.at_ (thg h (Thg.off (thg h x10)).toNat)) else false)=true->(((!bif bif !within (Thg.off (thg h x10)) (-1) ((x10:Int) - 1) then true else !within (Thg.at_ (thg h x10)) 0 99 then true else bif !decide (Thg.off (thg h x10) = -1) then decide (Thg.at_ (thg h x10) < Thg.at_ (thg h (Thg.off (thg h x10)).toNat)) else false)=true->(!bif bif !within (Thg.off (thg h x10)) (-1) ((x10:Int) - 1) then true else !within (Thg.at_ (thg h x10)) 0 99 then true else bif !decide (Thg.off (thg h x10) = -1) then decide (Thg.at_ (thg h x10) < Thg.at_ (thg h (Thg.off (thg h x10)).toNat)) else false)=true)/\True)/\True)/\(((bif bif !within (Thg.off (thg h x10)) (-1) ((x10:Int) - 1) then true else !within (Thg.at_ (thg h x10)) 0 99 then true else bif !decide (Thg.off (thg h x10) = -1) then decide (Thg.at_ (thg h x10) < Thg.at_ (thg h (Thg.off (thg h x10)).toNat)) else false)=true->True)/\((bif bif !within (Thg.off (thg h x10)) (-1) ((x10:Int) - 1) then true else !within (Thg.at_ (thg h x10)) 0 99 then true else bif !decide (Thg.off (thg h x10) = -1) then decide (Thg.at_ (thg h x10) < Thg.at_ (thg h (Thg.off (thg h x10)).toNat)) else false)=false->(!bif bif !within (Thg.off (thg h x10)) (-1) ((x10:Int) - 1) then true else !within (Thg.at_ (thg h x10)) 0 99 then true else bif !decide (Thg.off (thg h x10) = -1) then decide (Thg.at_ (thg h x10) < Thg.at_ (thg h (Thg.off (thg h x10)).toNat)) else false)=true))/\True/\((!bif bif bif !within (Thg.off (thg h x10)) (-1) ((x10:Int) - 1) then true else !within (Thg.at_ (thg h x10)) 0 99 then true else bif !decide (Thg.off (thg h x10) = -1) then decide (Thg.at_ (thg h x10) < Thg.at_ (thg h (Thg.off (thg h x10)).toNat)) else false then true else !within (Thg.cost (thg h x10)) 0 99)=true->(True/\True)/\True)/\((!bif bif bif !within (Thg.off (thg h x10)) (-1) ((x10:Int) - 1) then true else !within (Thg.at_ (thg h x10)) 0 99 then true else bif !decide (Thg.off (thg h x10) = -1) then decide (Thg.at_ (thg h x10) < Thg.at_ (thg h (Thg.off (thg h x10)).toNat)) else false then true else !within (Thg.cost (thg h x10)) 0 99)=true->(((!bif bif bif !within (Thg.off (thg h x10)) (-1) ((x10:Int) - 1) then true else !within (Thg.at_ (thg h x10)) 0 99 then true else bif !decide (Thg.off (thg h x10) = -1) then decide (Thg.at_ (thg h x10) < Thg.at_ (thg h (Thg.off (thg h x10)).toNat)) else false then true else !within (Thg.cost (thg h x10)) 0 99)=true->(!bif bif bif !within (Thg.off (thg h x10)) (-1) ((x10:Int) - 1) then true else !within (Thg.at_ (thg h x10)) 0 99 then true else bif !decide (Thg.off (thg h x10) = -1) then decide (Thg.at_ (thg h x10) < Thg.at_ (thg h (Thg.off (thg h x10)).toNat)) else false then true else !within (Thg.cost (thg h x10)) 0 99)=true)/\True)/\True)/\((!bif bif bif !within (Thg.off (thg h x10)) (-1) ((x10:Int) - 1) then true else !within (Thg.at_ (thg h x10)) 0 99 then true else bif !decide (Thg.off (thg h x10) = -1) then decide (Thg.at_ (thg h x10) < Thg.at_ (thg h (Thg.off (thg h x10)).toNat)) else false then true else !within (Thg.cost (thg h x10)) 0 99)=true->(True/\((!bif bif bif !within (Thg.off (thg h x10)) (-1) ((x10:Int) - 1) then true else !within (Thg.at_ (thg h x10)) 0 99 then true else bif !decide (Thg.off (thg h x10) = -1) then decide (Thg.at_ (thg h x10) < Thg.at_ (thg h (Thg.off (thg h x10)).toNat)) else false then true else !within (Thg.cost (thg h x10)) 0 99)=true->(!bif bif bif !within (Thg.off (thg h x10)) (-1) ((x10:Int) - 1) then true else !within (Thg.at_ (thg h x10)) 0 99 then true else bif !decide (Thg.off (thg h x10) = -1) then decide (Thg.at_ (thg h x10) < Thg.at_ (thg h (Thg.off (thg h x10)).toNat)) else false then true else !within (Thg.cost (thg h x10)) 0 99)=true)/\True/\True/\True)/\(zE (iv (Thg.prints (thg h x10)))/\iv 0=iv 0/\iv 1=iv 1/\True)/\Triple Try.prog 97 (s97 (Thg.prints (thg h x10)) 0 1)/\True/\True /\ ∀ (i70:Env),True)/\((!bif bif bif !within (Thg.off (thg h x10)) (-1) ((x10:Int) - 1) then true else !within (Thg.at_ (thg h x10)) 0 99 then true else bif !decide (Thg.off (thg h x10) = -1) then decide (Thg.at_ (thg h x10) < Thg.at_ (thg h (Thg.off (thg h x10)).toNat)) else false then true else !within (Thg.cost (thg h x10)) 0 99)=true->(((!bif bif bif !within (Thg.off (thg h x10)) (-1) ((x10:Int) - 1) then true else !within (Thg.at_ (thg h x10)) 0 99 then true else bif !decide (Thg.off (thg h x10) = -1) then decide (Thg.at_ (thg h x10) < Thg.at_ (thg h (Thg.off (thg h x10)).toNat)) else false then true else !within (Thg.cost (thg h x10)) 0 99)=true->(!bif bif bif !within (Thg.off (thg h x10)) (-1) ((x10:Int) - 1) then true else !within (Thg.at_ (thg h x10)) 0 99 then true else bif !decide (Thg.off (thg h x10) = -1) then decide (Thg.at_ (thg h x10) < Thg.at_ (thg h (Thg.off (thg h x10)).toNat)) else false then true else !within (Thg.cost (thg h x10)) 0 99)=true)/\True)/\True)/\(((bif bif bif !within (Thg.off (thg h x10)) (-1) ((x10:Int) - 1) then true else !within (Thg.at_ (thg h x10)) 0 99 then true else bif !decide (Thg.off (thg h x10) = -1) then decide (Thg.at_ (thg h x10) < Thg.at_ (thg h (Thg.off (thg h x10)).toNat)) else false then true else !within (Thg.cost (thg h x10)) 0 99)=true->True)/\((bif bif bif !within (Thg.off (thg h x10)) (-1) ((x10:Int) - 1) then true else !within (Thg.at_ (thg h x10)) 0 99 then true else bif !decide (Thg.off (thg h x10) = -1) then decide (Thg.at_ (thg h x10) < Thg.at_ (thg h (Thg.off (thg h x10)).toNat)) else false then true else !within (Thg.cost (thg h x10)) 0 99)=false->(!bif bif bif !within (Thg.off (thg h x10)) (-1) ((x10:Int) - 1) then true else !within (Thg.at_ (thg h x10)) 0 99 then true else bif !decide (Thg.off (thg h x10) = -1) then decide (Thg.at_ (thg h x10) < Thg.at_ (thg h (Thg.off (thg h x10)).toNat)) else false then true else !within (Thg.cost (thg h x10)) 0 99)=true))/\True) (st':=ASt.mk [(1,.ptr 0 []),(3,iv (x10:Int)),(68,bv (bif bif bif bif !within (Thg.off (thg h x10)) (-1) ((x10:Int) - 1) then true else !within (Thg.at_ (thg h x10)) 0 99 then true else bif !decide (Thg.off (thg h x10) = -1) then decide (Thg.at_ (thg h x10) < Thg.at_ (thg h (Thg.off (thg h x10)).toNat)) else false then true else !within (Thg.cost (thg h x10)) 0 99 then true else !within (Thg.prints (thg h x10)) 0 1))] [(0,.cells 80 (cHs h))] 10528) ⟨tv,tv,tv,(o6 hp h9 x10 hx10 h11),⟨⟨rfl,rfl,rfl,tv⟩,(t97 (Thg.off (thg h x10)) (-1) ((x10:Int) - 1)),tv,tv,(fun i12=>tv)⟩,tv,tv,(fun h13=>⟨⟨tv,tv⟩,tv⟩),(fun h14=>⟨⟨(fun h15=>h14),tv⟩,tv⟩),(fun h16=>⟨⟨tv,(fun h17=>h16),tv⟩,⟨rfl,tv⟩,(t62 (Thg.at_ (thg h x10))),tv,tv,(fun i18=>tv)⟩),(fun h19=>⟨⟨(fun h20=>h19),tv⟩,tv⟩),⟨(fun h21=>tv),(fun h22=>(o7 hp h9 x10 hx10 h11 h22))⟩,tv,(fun h23=>⟨⟨tv,tv⟩,tv⟩),(fun h24=>⟨⟨(fun h25=>h24),tv⟩,tv⟩),(fun h26=>⟨⟨(fun h27=>h26),tv,tv⟩,tv⟩),(fun h28=>⟨⟨(fun h29=>h28),tv⟩,tv⟩),(fun h30=>⟨⟨tv,tv⟩,tv⟩),(fun h31=>⟨⟨(fun h32=>h31),tv⟩,tv⟩),(fun h33=>⟨⟨tv,tv⟩,tv⟩),(fun h34=>⟨⟨(fun h35=>h34),tv⟩,tv⟩),(fun h36=>⟨⟨tv,tv⟩,tv⟩),(fun h37=>⟨⟨(fun h38=>h37),tv⟩,tv⟩),(fun h39=>⟨⟨(fun h40=>h39),(fun h41=>h39),tv⟩,(o8 hp h9 x10 hx10 h11 h39),(o9 hp h9 x10 hx10 h11 h39)⟩),(fun h42=>⟨⟨(fun h43=>h42),tv⟩,tv⟩),(fun h44=>⟨⟨(fun h45=>h44),tv⟩,tv⟩),(fun h46=>⟨⟨(fun h47=>h46),(fun h48=>h46),tv⟩,tv⟩),(fun h49=>⟨⟨(fun h50=>h49),tv⟩,(fun h51=>(o10 hp h9 x10 hx10 h11 h49 h51)),(fun h52=>tv)⟩),⟨(fun h53=>tv),(fun h54=>(o11 hp h9 x10 hx10 h11 h54))⟩,tv,(fun h55=>⟨⟨tv,tv⟩,tv⟩),(fun h56=>⟨⟨(fun h57=>h56),tv⟩,tv⟩),(fun h58=>⟨⟨tv,(fun h59=>h58),tv,tv,tv⟩,⟨rfl,rfl,rfl,tv⟩,(t97 (Thg.cost (thg h x10)) (0) (99)),tv,tv,(fun i60=>tv)⟩),(fun h61=>⟨⟨(fun h62=>h61),tv⟩,tv⟩),⟨(fun h63=>tv),(fun h64=>(o12 hp h9 x10 hx10 h11 h64))⟩,tv,(fun h65=>⟨⟨tv,tv⟩,tv⟩),(fun h66=>⟨⟨(fun h67=>h66),tv⟩,tv⟩),(fun h68=>⟨⟨tv,(fun h69=>h68),tv,tv,tv⟩,⟨rfl,rfl,rfl,tv⟩,(t97 (Thg.prints (thg h x10)) (0) (1)),tv,tv,(fun i70=>tv)⟩),(fun h71=>⟨⟨(fun h72=>h71),tv⟩,tv⟩),⟨(fun h73=>tv),(fun h74=>(o13 hp h9 x10 hx10 h11 h74))⟩,tv⟩ ?_
   refine swp_cond (bif bif bif bif !within (Thg.off (thg h x10)) (-1) ((x10:Int) - 1) then true else !within (Thg.at_ (thg h x10)) 0 99 then true else bif !decide (Thg.off (thg h x10) = -1) then decide (Thg.at_ (thg h x10) < Thg.at_ (thg h (Thg.off (thg h x10)).toNat)) else false then true else !within (Thg.cost (thg h x10)) 0 99 then true else !within (Thg.prints (thg h x10)) 0 1) (by kernel_rfl) (fun h75 => ?_) (fun h75 => ?_)
   ·refine swp_seq ?_
    refine sQ (kt:=[2]) (kh:=[]) (q:=True/\True) (st':=ASt.mk [(2,iv 70)] [] 10536) ⟨tv,tv⟩ ?_
    refine swp_ret ?_
    exact rQ [] ((True/\True)/\(zN (iv 70) (iv (check7 h)))/\T3) ⟨⟨tv,tv⟩,⟨(congrArg iv (o14 hp h9 x10 hx10 h11 h75)),rfl⟩,rfl,rfl,rfl⟩
   ·refine swp_skip ?_
    refine sQ (kt:=[1,3]) (kh:=[0]) (q:=True/\inI ((x10:Int) + 1)/\True/\True) (st':=ASt.mk [(1,.ptr 0 []),(3,iv ((x10:Int) + 1))] [(0,.cells 80 (cHs h))] 10552) ⟨tv,(o15 hp h9 x10 hx10 h11 h75),tv,tv⟩ ?_
    exact loop_next (z57_1 h) x10 (eQ hE [] [(0,.same 0)] [] [0] (((zP 0)/\(zN (iv ((x10:Int) + 1)) (iv (↑(x10 + 1):Int)))/\True)/\((zT (OB.cells 80 (cHs h)))/\True)/\T2) ⟨⟨⟨rfl,rfl⟩,⟨(congrArg iv (o16 hp h9 x10 hx10 h11 h75)),rfl⟩,tv⟩,⟨⟨rfl,rfl⟩,tv⟩,rfl,rfl⟩) (o17 hp h9 x10 hx10 h11 h75) (o18 hp h9 x10 hx10 h11 h75)
  ·refine swp_exit (swp_seq (swp_seq ?_))
   refine sQ (kt:=[1,5]) (kh:=[0]) (q:=True/\True) (st':=ASt.mk [(1,.ptr 0 []),(5,iv 0)] [(0,.cells 80 (cHs h))] 10152) ⟨tv,tv⟩ ?_
   refine swp_block ?_
   refine swp_loopA (z57_2 h) (eQ hE [] [(0,.same 0)] [] [0] (((zP 0)/\(zN (iv 0) (iv (↑0:Int)))/\True)/\((zT (OB.cells 80 (cHs h)))/\True)/\T2) ⟨⟨⟨rfl,rfl⟩,⟨(congrArg iv (o19 hp h9 x10 hx10 h11)),rfl⟩,tv⟩,⟨⟨rfl,rfl⟩,tv⟩,rfl,rfl⟩) (o20 hp h9 x10 hx10 h11) (fun (x76:Nat) hx76 => ?_)
   refine swp_seq (swp_seq ?_)
   refine sQ (kt:=[1,5,73]) (kh:=[0]) (q:=tn 5) (st':=ASt.mk [(1,.ptr 0 []),(5,iv (x76:Int)),(73,bv (decide ((x76:Int) < (↑((Hs.marks h).length):Int))))] [(0,.cells 80 (cHs h))] 20192) (tp 5) ?_
   refine swp_cond (decide ((x76:Int) < (↑((Hs.marks h).length):Int))) (by kernel_rfl) (fun h77 => ?_) (fun h77 => ?_)
   ·refine swp_skip (swp_seq (swp_block (swp_seq ?_)))
    refine sC (cs:=[(6,CallSpec.eq (s98 h ((Hs.marks h).getD x76 default)) [true,true])]) (kt:=[1,5,83]) (kh:=[0]) (q:=True/\True/\True/\True/\(0<=(x76:Int)/\(x76:Int) < (↑((Hs.marks h).length):Int))/\True/\((zE (AV.agg (cHs h))/\zE (AV.agg (cMrk ((Hs.marks h).getD x76 default)))/\True)/\Triple Try.prog 98 (s98 h ((Hs.marks h).getD x76 default))/\fitsH h/\True /\ ∀ (i78:Env),True)/\True/\True) (st':=ASt.mk [(1,.ptr 0 []),(5,iv (x76:Int)),(83,bv !okM h ((Hs.marks h).getD x76 default))] [(0,.cells 80 (cHs h))] 20256) ⟨tv,tv,tv,tv,⟨(o21 hp h9 x10 hx10 h11 x76 hx76 h77),(o22 hp h9 x10 hx10 h11 x76 hx76 h77)⟩,tv,⟨⟨rfl,rfl,tv⟩,(t98 (h) ((Hs.marks h).getD x76 default)),hp,tv,(fun i78=>tv)⟩,tv,tv⟩ ?_
    refine swp_cond (!okM h ((Hs.marks h).getD x76 default)) (by kernel_rfl) (fun h79 => ?_) (fun h79 => ?_)
    ·refine swp_seq ?_
     refine sQ (kt:=[2]) (kh:=[]) (q:=True/\True) (st':=ASt.mk [(2,iv 70)] [] 20264) ⟨tv,tv⟩ ?_
     refine swp_ret ?_
     exact rQ [] ((True/\True)/\(zN (iv 70) (iv (check7 h)))/\T3) ⟨⟨tv,tv⟩,⟨(congrArg iv (o23 hp h9 x10 hx10 h11 x76 hx76 h77 h79)),rfl⟩,rfl,rfl,rfl⟩
    ·refine swp_skip ?_
     refine sQ (kt:=[1,5]) (kh:=[0]) (q:=True/\inI ((x76:Int) + 1)/\True/\True) (st':=ASt.mk [(1,.ptr 0 []),(5,iv ((x76:Int) + 1))] [(0,.cells 80 (cHs h))] 20280) ⟨tv,(o24 hp h9 x10 hx10 h11 x76 hx76 h77 h79),tv,tv⟩ ?_
     exact loop_next (z57_2 h) x76 (eQ hE [] [(0,.same 0)] [] [0] (((zP 0)/\(zN (iv ((x76:Int) + 1)) (iv (↑(x76 + 1):Int)))/\True)/\((zT (OB.cells 80 (cHs h)))/\True)/\T2) ⟨⟨⟨rfl,rfl⟩,⟨(congrArg iv (o25 hp h9 x10 hx10 h11 x76 hx76 h77 h79)),rfl⟩,tv⟩,⟨⟨rfl,rfl⟩,tv⟩,rfl,rfl⟩) (o26 hp h9 x10 hx10 h11 x76 hx76 h77 h79) (o27 hp h9 x10 hx10 h11 x76 hx76 h77 h79)
   ·refine swp_exit (swp_seq ?_)
    refine sQ (kt:=[2]) (kh:=[]) (q:=True/\True) (st':=ASt.mk [(2,iv 0)] [] 20200) ⟨tv,tv⟩ ?_
    refine swp_ret ?_
    exact rQ [] ((True/\True)/\(zN (iv 0) (iv (check7 h)))/\T3) ⟨⟨tv,tv⟩,⟨(congrArg iv (o28 hp h9 x10 hx10 h11 x76 hx76 h77)),rfl⟩,rfl,rfl,rfl⟩
theorem check7_no {h:Hs} (hn:¬ okH h=true):70=check7 h:=by rw [check7,if_neg hn]
theorem okT5 (a b c d e f:Bool):(bif bif bif bif !a then true else !b then true else bif !c then d else false then true else !e then true else !f) = !(a && b && (c || !d) && e && f):=by cases a <;> cases b <;> cases c <;> cases d <;> cases e <;> cases f <;> rfl
theorem t57 (h:Hs):Triple Try.prog 57 (s57 h):=by
 apply w57
 case o1=>intro _ hh; exact check7_no fun e=>by have:=okH_iff.1 e; simp only [Bool.cond_true_left,Bool.or_eq_true,decide_eq_true_eq] at hh; omega
 case o8 | o9 =>
  intro _ _ x hx hl hh
  simp only [Bool.and_eq_true,Bool.not_eq_true',Bool.cond_true_left,Bool.or_eq_false_iff,Bool.not_eq_false',Go.Sh.within_iff,decide_eq_false_iff_not,decide_eq_true_eq] at hh hl
  omega
 case o14 =>
  intro _ _ x hx hl hh
  rw [okT5,Bool.not_eq_true'] at hh
  have h2:okT h x=false:=hh
  exact check7_no fun e=>by have:=(okH_iff.1 e).2.2.1 x (by simpa using hl); rw [h2] at this; cases this
 case o17 =>
  intro _ _ x hx hl hh
  rw [okT5,Bool.not_eq_false'] at hh
  have h2:okT h x=true:=hh
  simp only [decide_eq_true_eq] at hl
  exact ⟨by omega,lt_succ_cases hx.2 h2⟩
 case o23 =>
  intro _ _ x hx _ y hy hl hh
  simp only [decide_eq_true_eq] at hl
  exact check7_no fun e=>by have:=(okH_iff.1 e).2.2.2 _ (Go.Ab.getD_mem h.marks default (i:=y) (by omega)); rw [this] at hh; cases hh
 case o26 =>
  intro _ _ x hx _ y hy hl hh
  simp only [decide_eq_true_eq] at hl
  exact ⟨by omega,lt_succ_cases hy.2 (by simpa using hh)⟩
 case o28 =>
  intro _ h1 x hx hl y hy hl2
  simp only [decide_eq_false_iff_not] at hl hl2
  simp only [Bool.cond_true_left,Bool.or_eq_false_iff,decide_eq_false_iff_not] at h1
  have:okH h=true:=okH_iff.2 ⟨by omega,by omega,fun i hi=>hx.2 i (by omega),fun m hm=>by
   obtain ⟨i,hi,rfl⟩:=List.getElem_of_mem hm
   have:=hy.2 i (by omega)
   rwa [Go.Ab.getD_lt _ _ hi] at this⟩
  rw [check7,if_pos this]
 all_goals (first | ((repeat intro _) <;> (try simp only [v0,v1,v2,v3,v4,v5,v6,v7,v8,v9,inI,fits,Go.Sh.small] at *) <;> first | (exact rfl) | omega | exact vz | (simp_all; done) | (simp_all; omega)) | skip)
abbrev z59_1 (h:Hs) (l:List Int) (m:Int):LoopAnn:=Hint.ann (h59 h l m) [(1,aInts l),(2,iv m),(3,AV.ptr 0 [])] [(0,OB.cells 80 (cHs h))] 10080
abbrev q59_1 (h:Hs) (l:List Int) (m:Int) (C:Prop):Prop:=fitsH h/\l.length<=1125899906842624->C
abbrev q59_2 (h:Hs) (l:List Int) (m:Int) (C:Prop):Prop:=q59_1 h l m ((!rising l 0 ((↑((Hs.things h).length):Int) - 1))=false->C)
abbrev q59_3 (h:Hs) (l:List Int) (m:Int) (C:Nat->Prop):Prop:=q59_2 h l m (∀ (x2:Nat),(x2<=l.length /\ ∀ (j:Nat),j < x2->plOK h m (l.getD j 0)=true)->decide ((x2:Int) < (↑(l.length):Int))=true->C x2)
abbrev q59_4 (h:Hs) (l:List Int) (m:Int) (C:Nat->Prop):Prop:=q59_3 h l m fun x2=>(bif decide (Thg.prints (thg h (l.getD x2 0).toNat)=0) then true else decide (m < Thg.at_ (thg h (l.getD x2 0).toNat)))=false->C x2
theorem w59 (h:Hs) (l:List Int) (m:Int)
 (o0:q59_1 h l m (inI ((↑((Hs.things h).length):Int) - 1)))
 (o1:q59_1 h l m ((!rising l 0 ((↑((Hs.things h).length):Int) - 1))=true->false=plates7 h l m))
 (o2:q59_2 h l m (0=(↑0:Int)))
 (o3:q59_2 h l m (0<=l.length /\ ∀ (j:Nat),j < 0->plOK h m (l.getD j 0)=true))
 (o4:q59_3 h l m fun x2=>0<=(x2:Int))
 (o5:q59_3 h l m fun x2=>(x2:Int) < (↑(l.length):Int))
 (o6:q59_3 h l m fun x2=>0<=l.getD x2 0)
 (o7:q59_3 h l m fun x2=>l.getD x2 0 < (↑((Hs.things h).length):Int))
 (o8:q59_3 h l m fun x2=>decide (Thg.prints (thg h (l.getD x2 0).toNat)=0)=false->(!decide (Thg.prints (thg h (l.getD x2 0).toNat)=0))=true)
 (o9:q59_3 h l m fun x2=>(bif decide (Thg.prints (thg h (l.getD x2 0).toNat)=0) then true else decide (m < Thg.at_ (thg h (l.getD x2 0).toNat)))=true->false=plates7 h l m)
 (o10:q59_4 h l m fun x2=>inI ((x2:Int) + 1))
 (o11:q59_4 h l m fun x2=>(x2:Int) + 1=(↑(x2 + 1):Int))
 (o12:q59_4 h l m fun x2=>x2 + 1<=l.length /\ ∀ (j:Nat),j < x2 + 1->plOK h m (l.getD j 0)=true)
 (o13:q59_4 h l m fun x2=>l.length - (x2 + 1) < l.length - x2)
 (o14:q59_2 h l m (∀ (x2:Nat),(x2<=l.length /\ ∀ (j:Nat),j < x2->plOK h m (l.getD j 0)=true)->decide ((x2:Int) < (↑(l.length):Int))=false->true=plates7 h l m)) :
  Triple Try.prog 59 (s59 h l m):=by
 refine triple_of Try.func59 rfl Try.call59 T0_ok _ rfl rfl rfl rfl (Nat.le_of_ble_eq_true (by kernel_rfl)) (fun _ _ _ _ h=>h) ?_
 intro hp C hC _ hE
 obtain ⟨P,w0,E0,av,hA⟩:=C
 subst hC
 refine swp_seq ?_
 refine sQ (kt:=[1,2,3]) (kh:=[0]) (q:=tn 2) (st':=ASt.mk [(1,aInts l),(2,iv m),(3,.ptr 0 [])] [(0,.cells 80 (cHs h))] 16) (tp 2) ?_
 refine swp_seq (swp_seq ?_)
 refine sC (cs:=[(5,CallSpec.eq (s52 l 0 ((↑((Hs.things h).length):Int) - 1)) [true,true,true])]) (kt:=[1,2,3,15]) (kh:=[0]) (q:=True/\True/\True/\True/\inI ((↑((Hs.things h).length):Int) - 1)/\((zE (aInts l)/\iv 0=iv 0/\zE (iv ((↑((Hs.things h).length):Int) - 1))/\True)/\Triple Try.prog 52 (s52 l 0 ((↑((Hs.things h).length):Int) - 1))/\l.length<=1125899906842624/\True /\ ∀ (i0:Env),True)/\True/\True) (st':=ASt.mk [(1,aInts l),(2,iv m),(3,.ptr 0 []),(15,bv !rising l 0 ((↑((Hs.things h).length):Int) - 1))] [(0,.cells 80 (cHs h))] 72) ⟨tv,tv,tv,tv,(o0 hp),⟨⟨rfl,rfl,rfl,tv⟩,(t52 (l) (0) ((↑((Hs.things h).length):Int) - 1)),hp.2,tv,(fun i0=>tv)⟩,tv,tv⟩ ?_
 refine swp_cond (!rising l 0 ((↑((Hs.things h).length):Int) - 1)) (by kernel_rfl) (fun h1 => ?_) (fun h1 => ?_)
 ·refine swp_seq ?_
  refine sQ (kt:=[6]) (kh:=[]) (q:=True/\True) (st':=ASt.mk [(6,bv false)] [] 80) ⟨tv,tv⟩ ?_
  refine swp_ret ?_
  exact rQ [] ((True/\True)/\(zN (bv false) (bv (plates7 h l m)))/\T3) ⟨⟨tv,tv⟩,⟨(congrArg bv (o1 hp h1)),rfl⟩,rfl,rfl,rfl⟩
 ·refine swp_skip (swp_seq (swp_seq ?_))
  refine sQ (kt:=[1,2,3,7]) (kh:=[0]) (q:=True/\True) (st':=ASt.mk [(1,aInts l),(2,iv m),(3,.ptr 0 []),(7,iv 0)] [(0,.cells 80 (cHs h))] 80) ⟨tv,tv⟩ ?_
  refine swp_block ?_
  refine swp_loopA (z59_1 h l m) (eQ hE [] [(0,.same 0)] [1,2] [0] (((zT (aInts l))/\(zT (iv m))/\(zP 0)/\(zN (iv 0) (iv (↑0:Int)))/\True)/\((zT (OB.cells 80 (cHs h)))/\True)/\T2) ⟨⟨⟨rfl,rfl⟩,⟨rfl,rfl⟩,⟨rfl,rfl⟩,⟨(congrArg iv (o2 hp h1)),rfl⟩,tv⟩,⟨⟨rfl,rfl⟩,tv⟩,rfl,rfl⟩) (o3 hp h1) (fun (x2:Nat) hx2 => ?_)
  refine swp_seq (swp_seq ?_)
  refine sQ (kt:=[1,2,3,7,19]) (kh:=[0]) (q:=tn 4) (st':=ASt.mk [(1,aInts l),(2,iv m),(3,.ptr 0 []),(7,iv (x2:Int)),(19,bv (decide ((x2:Int) < (↑(l.length):Int))))] [(0,.cells 80 (cHs h))] 10112) (tp 4) ?_
  refine swp_cond (decide ((x2:Int) < (↑(l.length):Int))) (by kernel_rfl) (fun h3 => ?_) (fun h3 => ?_)
  ·refine swp_skip (swp_seq (swp_block (swp_seq ?_)))
   refine sQ (kt:=[1,2,3,7,8]) (kh:=[0,10176]) (q:=True/\True/\True/\True/\(0<=(x2:Int)/\(x2:Int) < (↑(l.length):Int))/\True/\(0<=l.getD x2 0/\l.getD x2 0 < (↑((Hs.things h).length):Int))/\tn 3) (st':=ASt.mk [(1,aInts l),(2,iv m),(3,.ptr 0 []),(7,iv (x2:Int)),(8,.ptr 10176 [])] [(0,.cells 80 (cHs h)),(10176,.cells 88 (cThg (thg h (l.getD x2 0).toNat)))] 10192) ⟨tv,tv,tv,tv,⟨(o4 hp h1 x2 hx2 h3),(o5 hp h1 x2 hx2 h3)⟩,tv,⟨(o6 hp h1 x2 hx2 h3),(o7 hp h1 x2 hx2 h3)⟩,tp 3⟩ ?_
   refine swp_seq ?_
   refine sQ (kt:=[1,2,3,7,38]) (kh:=[0]) (q:=True/\True/\True/\True/\((!decide (Thg.prints (thg h (l.getD x2 0).toNat)=0))->(True/\True)/\True)/\((!decide (Thg.prints (thg h (l.getD x2 0).toNat)=0))->(((!decide (Thg.prints (thg h (l.getD x2 0).toNat)=0))->(!decide (Thg.prints (thg h (l.getD x2 0).toNat)=0))=true)/\True)/\True)/\((!decide (Thg.prints (thg h (l.getD x2 0).toNat)=0))->(True/\True)/\True)/\((!decide (Thg.prints (thg h (l.getD x2 0).toNat)=0))->(((!decide (Thg.prints (thg h (l.getD x2 0).toNat)=0))->(!decide (Thg.prints (thg h (l.getD x2 0).toNat)=0))=true)/\((!decide (Thg.prints (thg h (l.getD x2 0).toNat)=0))->(!decide (Thg.prints (thg h (l.getD x2 0).toNat)=0))=true)/\True)/\True)/\((decide (Thg.prints (thg h (l.getD x2 0).toNat)=0)=true->True)/\(decide (Thg.prints (thg h (l.getD x2 0).toNat)=0)=false->(!decide (Thg.prints (thg h (l.getD x2 0).toNat)=0))=true))/\True) (st':=ASt.mk [(1,aInts l),(2,iv m),(3,.ptr 0 []),(7,iv (x2:Int)),(38,bv (bif decide (Thg.prints (thg h (l.getD x2 0).toNat)=0) then true else decide (m < Thg.at_ (thg h (l.getD x2 0).toNat))))] [(0,.cells 80 (cHs h))] 10264) ⟨tv,tv,tv,tv,(fun h4=>⟨⟨tv,tv⟩,tv⟩),(fun h5=>⟨⟨(fun h6=>h5),tv⟩,tv⟩),(fun h7=>⟨⟨tv,tv⟩,tv⟩),(fun h8=>⟨⟨(fun h9=>h8),(fun h10=>h8),tv⟩,tv⟩),⟨(fun h11=>tv),(fun h12=>(o8 hp h1 x2 hx2 h3 h12))⟩,tv⟩ ?_
   refine swp_cond (bif decide (Thg.prints (thg h (l.getD x2 0).toNat)=0) then true else decide (m < Thg.at_ (thg h (l.getD x2 0).toNat))) (by kernel_rfl) (fun h13 => ?_) (fun h13 => ?_)
   ·refine swp_seq ?_
    refine sQ (kt:=[6]) (kh:=[]) (q:=True/\True) (st':=ASt.mk [(6,bv false)] [] 10272) ⟨tv,tv⟩ ?_
    refine swp_ret ?_
    exact rQ [] ((True/\True)/\(zN (bv false) (bv (plates7 h l m)))/\T3) ⟨⟨tv,tv⟩,⟨(congrArg bv (o9 hp h1 x2 hx2 h3 h13)),rfl⟩,rfl,rfl,rfl⟩
   ·refine swp_skip ?_
    refine sQ (kt:=[1,2,3,7]) (kh:=[0]) (q:=True/\inI ((x2:Int) + 1)/\True/\True) (st':=ASt.mk [(1,aInts l),(2,iv m),(3,.ptr 0 []),(7,iv ((x2:Int) + 1))] [(0,.cells 80 (cHs h))] 10288) ⟨tv,(o10 hp h1 x2 hx2 h3 h13),tv,tv⟩ ?_
    exact loop_next (z59_1 h l m) x2 (eQ hE [] [(0,.same 0)] [1,2] [0] (((zT (aInts l))/\(zT (iv m))/\(zP 0)/\(zN (iv ((x2:Int) + 1)) (iv (↑(x2 + 1):Int)))/\True)/\((zT (OB.cells 80 (cHs h)))/\True)/\T2) ⟨⟨⟨rfl,rfl⟩,⟨rfl,rfl⟩,⟨rfl,rfl⟩,⟨(congrArg iv (o11 hp h1 x2 hx2 h3 h13)),rfl⟩,tv⟩,⟨⟨rfl,rfl⟩,tv⟩,rfl,rfl⟩) (o12 hp h1 x2 hx2 h3 h13) (o13 hp h1 x2 hx2 h3 h13)
  ·refine swp_exit (swp_seq ?_)
   refine sQ (kt:=[6]) (kh:=[]) (q:=True/\True) (st':=ASt.mk [(6,bv true)] [] 10120) ⟨tv,tv⟩ ?_
   refine swp_ret ?_
   exact rQ [] ((True/\True)/\(zN (bv true) (bv (plates7 h l m)))/\T3) ⟨⟨tv,tv⟩,⟨(congrArg bv (o14 hp h1 x2 hx2 h3)),rfl⟩,rfl,rfl,rfl⟩
theorem rising_at {l:List Int} {lo hi:Int} (h:rising l lo hi=true) {i:Nat} (hi':i < l.length):lo<=l.getD i 0/\l.getD i 0<=hi:=by
 have:=List.all_eq_true.1 h i (List.mem_range.2 hi')
 simp only [risAt,Bool.and_eq_true,Go.Sh.within_iff] at this
 exact this.1
theorem plOK_b (a b:Bool):(bif a then true else b) = !(!a && !b):=by cases a <;> cases b <;> rfl
theorem t59 (h:Hs) (l:List Int) (m:Int):Triple Try.prog 59 (s59 h l m):=by
 apply w59
 case o0=>intro h; have:=h.1.1; exact ⟨by omega,by omega⟩
 case o1=>intro _ hh; simp only [Bool.not_eq_true'] at hh; rw [plates7,hh]; rfl
 case o6 | o7 =>
  intro _ hr x hx hl
  simp only [Bool.not_eq_false',decide_eq_true_eq] at hr hl
  have:=rising_at hr (i:=x) (by omega)
  omega
 case o9 =>
  intro _ hr x hx hl hh
  simp only [decide_eq_true_eq] at hl
  rw [plOK_b,Bool.not_eq_true'] at hh
  rw [plates7,not_all l 0 (plOK h m) (by omega) hh,Bool.and_false]
 case o12 =>
  intro _ hr x hx hl hh
  simp only [decide_eq_true_eq] at hl
  rw [plOK_b,Bool.not_eq_false'] at hh
  exact ⟨by omega,lt_succ_cases hx.2 hh⟩
 case o14 =>
  intro _ hr x hx hl
  simp only [Bool.not_eq_false',decide_eq_false_iff_not] at hr hl
  rw [plates7,hr,all_idx l 0 (plOK h m) (fun j hj=>hx.2 j (by omega))]; rfl
 all_goals (first | ((repeat intro _) <;> (try simp only [v0,v1,v2,v3,v4,v5,v6,v7,v8,v9,inI,fits,Go.Sh.small] at *) <;> first | (exact rfl) | omega | exact vz | (simp_all; done) | (simp_all; omega)) | skip)
theorem w144 (m:Mrk) (h:Hs)
 (o0:fitsH h->(!within (Mrk.ch m) 0 2)=false->(!!within (Mrk.ch m) 0 2)=true)
 (o1:fitsH h->(!bif !within (Mrk.ch m) 0 2 then true else !isThing h (Mrk.th m))=true->0<=Mrk.th m)
 (o2:fitsH h->(!bif !within (Mrk.ch m) 0 2 then true else !isThing h (Mrk.th m))=true->Mrk.th m < (↑((Hs.things h).length):Int))
 (o3:fitsH h->(bif !within (Mrk.ch m) 0 2 then true else !isThing h (Mrk.th m))=false->(!bif !within (Mrk.ch m) 0 2 then true else !isThing h (Mrk.th m))=true)
 (o4:fitsH h->(bif bif !within (Mrk.ch m) 0 2 then true else !isThing h (Mrk.th m) then true else !within (Mrk.at_ m) (Thg.at_ (thg h (Mrk.th m).toNat)) 99) = !okM h m) :
  Triple Try.prog 144 (s144 m h):=by
 refine triple_of Try.func144 rfl Try.call144 T0_ok _ rfl rfl rfl rfl (Nat.le_of_ble_eq_true (by kernel_rfl)) (fun _ _ _ _ h=>h) ?_
 intro hp C hC _ hE
 obtain ⟨P,w0,E0,av,hA⟩:=C
 subst hC
 refine swp_seq ?_
 refine sQ (kt:=[1,2]) (kh:=[0]) (q:=tn 2) (st':=ASt.mk [(1,.rp (cHs h)),(2,.ptr 0 [])] [(0,.cells 126 (cMrk m))] 16) (tp 2) ?_
 refine swp_seq ?_
 refine sC (cs:=[(2,CallSpec.eq (s103 (Mrk.ch m)) [true]),(8,CallSpec.eq (s102 h (Mrk.th m)) [true,true]),(21,CallSpec.eq (s130 (Mrk.at_ m) (Thg.at_ (thg h (Mrk.th m).toNat)) 99) [true,true,true])]) (kt:=[3]) (kh:=[]) (q:=True/\True/\((zE (iv (Mrk.ch m))/\True)/\Triple Try.prog 103 (s103 (Mrk.ch m))/\True/\True /\ ∀ (i0:Env),True)/\True/\True/\((!!within (Mrk.ch m) 0 2)=true->(True/\True)/\True)/\((!!within (Mrk.ch m) 0 2)=true->(True/\True)/\True)/\((!!within (Mrk.ch m) 0 2)=true->(((!!within (Mrk.ch m) 0 2)=true->(!!within (Mrk.ch m) 0 2)=true)/\True)/\True)/\((!!within (Mrk.ch m) 0 2)=true->(True/\((!!within (Mrk.ch m) 0 2)=true->(!!within (Mrk.ch m) 0 2)=true)/\((!!within (Mrk.ch m) 0 2)=true->(!!within (Mrk.ch m) 0 2)=true)/\True)/\(zE (AV.agg (cHs h))/\zE (iv (Mrk.th m))/\True)/\Triple Try.prog 102 (s102 h (Mrk.th m))/\fitsH h/\True /\ ∀ (i8:Env),True)/\((!!within (Mrk.ch m) 0 2)=true->(((!!within (Mrk.ch m) 0 2)=true->(!!within (Mrk.ch m) 0 2)=true)/\True)/\True)/\(((!within (Mrk.ch m) 0 2)=true->True)/\((!within (Mrk.ch m) 0 2)=false->(!!within (Mrk.ch m) 0 2)=true))/\True/\((!bif !within (Mrk.ch m) 0 2 then true else !isThing h (Mrk.th m))=true->(True/\True)/\True)/\((!bif !within (Mrk.ch m) 0 2 then true else !isThing h (Mrk.th m))=true->(((!bif !within (Mrk.ch m) 0 2 then true else !isThing h (Mrk.th m))=true->(!bif !within (Mrk.ch m) 0 2 then true else !isThing h (Mrk.th m))=true)/\True)/\True)/\((!bif !within (Mrk.ch m) 0 2 then true else !isThing h (Mrk.th m))=true->(True/\True)/\True)/\((!bif !within (Mrk.ch m) 0 2 then true else !isThing h (Mrk.th m))=true->(((!bif !within (Mrk.ch m) 0 2 then true else !isThing h (Mrk.th m))=true->(!bif !within (Mrk.ch m) 0 2 then true else !isThing h (Mrk.th m))=true)/\True)/\True)/\((!bif !within (Mrk.ch m) 0 2 then true else !isThing h (Mrk.th m))=true->(True/\True)/\True)/\((!bif !within (Mrk.ch m) 0 2 then true else !isThing h (Mrk.th m))=true->(((!bif !within (Mrk.ch m) 0 2 then true else !isThing h (Mrk.th m))=true->(!bif !within (Mrk.ch m) 0 2 then true else !isThing h (Mrk.th m))=true)/\True)/\True)/\((!bif !within (Mrk.ch m) 0 2 then true else !isThing h (Mrk.th m))=true->(((!bif !within (Mrk.ch m) 0 2 then true else !isThing h (Mrk.th m))=true->(!bif !within (Mrk.ch m) 0 2 then true else !isThing h (Mrk.th m))=true)/\((!bif !within (Mrk.ch m) 0 2 then true else !isThing h (Mrk.th m))=true->(!bif !within (Mrk.ch m) 0 2 then true else !isThing h (Mrk.th m))=true)/\True)/\0<=Mrk.th m/\Mrk.th m < (↑((Hs.things h).length):Int))/\((!bif !within (Mrk.ch m) 0 2 then true else !isThing h (Mrk.th m))=true->(((!bif !within (Mrk.ch m) 0 2 then true else !isThing h (Mrk.th m))=true->(!bif !within (Mrk.ch m) 0 2 then true else !isThing h (Mrk.th m))=true)/\True)/\True)/\((!bif !within (Mrk.ch m) 0 2 then true else !isThing h (Mrk.th m))=true->(((!bif !within (Mrk.ch m) 0 2 then true else !isThing h (Mrk.th m))=true->(!bif !within (Mrk.ch m) 0 2 then true else !isThing h (Mrk.th m))=true)/\True)/\True)/\((!bif !within (Mrk.ch m) 0 2 then true else !isThing h (Mrk.th m))=true->(True/\((!bif !within (Mrk.ch m) 0 2 then true else !isThing h (Mrk.th m))=true->(!bif !within (Mrk.ch m) 0 2 then true else !isThing h (Mrk.th m))=true)/\((!bif !within (Mrk.ch m) 0 2 then true else !isThing h (Mrk.th m))=true->(!bif !within (Mrk.ch m) 0 2 then true else !isThing h (Mrk.th m))=true)/\True/\True)/\(zE (iv (Mrk.at_ m))/\zE (iv (Thg.at_ (thg h (Mrk.th m).toNat)))/\iv 99=iv 99/\True)/\Triple Try.prog 130 (s130 (Mrk.at_ m) (Thg.at_ (thg h (Mrk.th m).toNat)) 99)/\True/\True /\ ∀ (i32:Env),True)/\((!bif !within (Mrk.ch m) 0 2 then true else !isThing h (Mrk.th m))=true->(((!bif !within (Mrk.ch m) 0 2 then true else !isThing h (Mrk.th m))=true->(!bif !within (Mrk.ch m) 0 2 then true else !isThing h (Mrk.th m))=true)/\True)/\True)/\(((bif !within (Mrk.ch m) 0 2 then true else !isThing h (Mrk.th m))=true->True)/\((bif !within (Mrk.ch m) 0 2 then true else !isThing h (Mrk.th m))=false->(!bif !within (Mrk.ch m) 0 2 then true else !isThing h (Mrk.th m))=true))/\True/\True) (st':=ASt.mk [(3,bv (bif bif !within (Mrk.ch m) 0 2 then true else !isThing h (Mrk.th m) then true else !within (Mrk.at_ m) (Thg.at_ (thg h (Mrk.th m).toNat)) 99))] [] 216) ⟨tv,tv,⟨⟨rfl,tv⟩,(t103 (Mrk.ch m)),tv,tv,(fun i0=>tv)⟩,tv,tv,(fun h1=>⟨⟨tv,tv⟩,tv⟩),(fun h2=>⟨⟨tv,tv⟩,tv⟩),(fun h3=>⟨⟨(fun h4=>h3),tv⟩,tv⟩),(fun h5=>⟨⟨tv,(fun h6=>h5),(fun h7=>h5),tv⟩,⟨rfl,rfl,tv⟩,(t102 (h) (Mrk.th m)),hp,tv,(fun i8=>tv)⟩),(fun h9=>⟨⟨(fun h10=>h9),tv⟩,tv⟩),⟨(fun h11=>tv),(fun h12=>(o0 hp h12))⟩,tv,(fun h13=>⟨⟨tv,tv⟩,tv⟩),(fun h14=>⟨⟨(fun h15=>h14),tv⟩,tv⟩),(fun h16=>⟨⟨tv,tv⟩,tv⟩),(fun h17=>⟨⟨(fun h18=>h17),tv⟩,tv⟩),(fun h19=>⟨⟨tv,tv⟩,tv⟩),(fun h20=>⟨⟨(fun h21=>h20),tv⟩,tv⟩),(fun h22=>⟨⟨(fun h23=>h22),(fun h24=>h22),tv⟩,(o1 hp h22),(o2 hp h22)⟩),(fun h25=>⟨⟨(fun h26=>h25),tv⟩,tv⟩),(fun h27=>⟨⟨(fun h28=>h27),tv⟩,tv⟩),(fun h29=>⟨⟨tv,(fun h30=>h29),(fun h31=>h29),tv,tv⟩,⟨rfl,rfl,rfl,tv⟩,(t130 (Mrk.at_ m) (Thg.at_ (thg h (Mrk.th m).toNat)) (99)),tv,tv,(fun i32=>tv)⟩),(fun h33=>⟨⟨(fun h34=>h33),tv⟩,tv⟩),⟨(fun h35=>tv),(fun h36=>(o3 hp h36))⟩,tv,tv⟩ ?_
 refine swp_ret ?_
 exact rQ [] ((True/\True)/\(zN (bv (bif bif !within (Mrk.ch m) 0 2 then true else !isThing h (Mrk.th m) then true else !within (Mrk.at_ m) (Thg.at_ (thg h (Mrk.th m).toNat)) 99)) (bv !okM h m))/\T3) ⟨⟨tv,tv⟩,⟨(congrArg bv (o4 hp)),rfl⟩,rfl,rfl,rfl⟩
theorem okM3 (a b c:Bool):(bif bif !a then true else !b then true else !c) = !(a && b && c):=by cases a <;> cases b <;> cases c <;> rfl
theorem t144 (m:Mrk) (h:Hs):Triple Try.prog 144 (s144 m h):=by
 apply w144
 case o1 | o2 =>
  intro _ hh
  simp only [Bool.cond_true_left,Bool.not_eq_true',Bool.or_eq_false_iff,Bool.not_eq_false',isThing_iff] at hh
  omega
 case o4=>intro _; exact okM3 _ _ _
 all_goals (first | ((repeat intro _) <;> (try simp only [v0,v1,v2,v3,v4,v5,v6,v7,v8,v9,inI,fits,Go.Sh.small] at *) <;> first | (exact rfl) | omega | exact vz | (simp_all; done) | (simp_all; omega)) | skip)
abbrev z157_1 (l:List Mrk) (p:Mrk->Bool):LoopAnn:=Hint.ann (h157 l p) [(0,aMrks l),(1,AV.fn 0),(7,iv (↑(l.length):Int))] [] 10032
abbrev q157_1 (l:List Mrk) (p:Mrk->Bool) (C:Env->Prop):Prop := ∀ (E0:Env),fnokOf Try.prog 0 (fun (m:Mrk)=>[vMrk m]) (fun (m:Mrk)=>bv (p m)) E0->l.length<=1125899906842624->C E0
abbrev q157_2 (l:List Mrk) (p:Mrk->Bool) (C:Env->Nat->Prop):Prop:=q157_1 l p fun E0 => ∀ (x0:Nat),(x0<=l.length /\ ∀ (j:Nat),j < x0->p (l.getD j default)=false)->decide ((x0:Int) < (↑(l.length):Int))=true->C E0 x0
theorem w157 (l:List Mrk) (p:Mrk->Bool)
 (o0:q157_1 l p fun E0=>0=(↑0:Int))
 (o1:q157_1 l p fun E0=>0<=l.length /\ ∀ (j:Nat),j < 0->p (l.getD j default)=false)
 (o2:q157_2 l p fun E0 x0=>0<=(x0:Int))
 (o3:q157_2 l p fun E0 x0=>(x0:Int) < (↑(l.length):Int))
 (o4:q157_2 l p fun E0 x0 => ∀ (i2:Value),E0.4 0 i2->FnOK Try.prog E0 i2 [vMrk (l.getD x0 default)] (bv (p (l.getD x0 default))))
 (o5:q157_2 l p fun E0 x0=>p (l.getD x0 default)=true->(x0:Int)=idxG l p)
 (o6:q157_2 l p fun E0 x0=>p (l.getD x0 default)=false->inI ((x0:Int) + 1))
 (o7:q157_2 l p fun E0 x0=>p (l.getD x0 default)=false->(x0:Int) + 1=(↑(x0 + 1):Int))
 (o8:q157_2 l p fun E0 x0=>p (l.getD x0 default)=false->x0 + 1<=l.length /\ ∀ (j:Nat),j < x0 + 1->p (l.getD j default)=false)
 (o9:q157_2 l p fun E0 x0=>p (l.getD x0 default)=false->l.length - (x0 + 1) < l.length - x0)
 (o10:q157_1 l p fun E0 => ∀ (x0:Nat),(x0<=l.length /\ ∀ (j:Nat),j < x0->p (l.getD j default)=false)->decide ((x0:Int) < (↑(l.length):Int))=false -> -1=idxG l p) :
  Triple Try.prog 157 (s157 l p):=by
 refine triple_of Try.func157 rfl Try.call157 T0_ok _ rfl rfl rfl rfl (Nat.le_of_ble_eq_true (by kernel_rfl)) fnokOf_congr ?_
 intro hp C hC hfn hE
 obtain ⟨P,w0,E0,av,hA⟩:=C
 subst hC
 refine swp_seq ?_
 refine sQ (kt:=[0,1]) (kh:=[]) (q:=True/\True) (st':=ASt.mk [(0,aMrks l),(1,.fn 0)] [] 8) ⟨tv,tv⟩ ?_
 refine swp_seq (swp_seq ?_)
 refine sQ (kt:=[0,1,7,8]) (kh:=[]) (q:=tn 3) (st':=ASt.mk [(0,aMrks l),(1,.fn 0),(7,iv (↑(l.length):Int)),(8,iv 0)] [] 32) (tp 3) ?_
 refine swp_block ?_
 refine swp_loopA (z157_1 l p) (eQ hE [] [] [0,1,7] [] (((zT (aMrks l))/\(zT (AV.fn 0))/\(zT (iv (↑(l.length):Int)))/\(zN (iv 0) (iv (↑0:Int)))/\True)/\True/\T2) ⟨⟨⟨rfl,rfl⟩,⟨rfl,rfl⟩,⟨rfl,rfl⟩,⟨(congrArg iv (o0 E0 hfn hp)),rfl⟩,tv⟩,tv,rfl,rfl⟩) (o1 E0 hfn hp) (fun (x0:Nat) hx0 => ?_)
 refine swp_seq ?_
 refine sQ (kt:=[0,1,7,8,9]) (kh:=[]) (q:=True/\True) (st':=ASt.mk [(0,aMrks l),(1,.fn 0),(7,iv (↑(l.length):Int)),(8,iv (x0:Int)),(9,bv (decide ((x0:Int) < (↑(l.length):Int))))] [] 10040) ⟨tv,tv⟩ ?_
 refine swp_seq ?_
 refine swp_cond (decide ((x0:Int) < (↑(l.length):Int))) (by kernel_rfl) (fun h1 => ?_) (fun h1 => ?_)
 ·refine swp_skip (swp_seq (swp_block (swp_seq ?_)))
  refine sQ (kt:=[0,1,7,8,5]) (kh:=[]) (q:=tn 2) (st':=ASt.mk [(0,aMrks l),(1,.fn 0),(7,iv (↑(l.length):Int)),(8,iv (x0:Int)),(5,iv (x0:Int))] [] 10056) (tp 2) ?_
  refine swp_seq ?_
  refine sC (cs:=[(5,CallSpec.eq (c157 l p x0) [true])]) (kt:=[0,1,7,8,5,16]) (kh:=[]) (q:=True/\True/\True/\(0<=(x0:Int)/\(x0:Int) < (↑(l.length):Int))/\True/\(((zE (iv (Mrk.ch (l.getD x0 default)))/\zE (iv (Mrk.th (l.getD x0 default)))/\zE (iv (Mrk.at_ (l.getD x0 default)))/\True)/\True) /\ ∀ (i2:Value),E0.4 0 i2->FnOK Try.prog E0 i2 [vMrk (l.getD x0 default)] (bv (p (l.getD x0 default))))/\True) (st':=ASt.mk [(0,aMrks l),(1,.fn 0),(7,iv (↑(l.length):Int)),(8,iv (x0:Int)),(5,iv (x0:Int)),(16,bv (p (l.getD x0 default)))] [] 10104) ⟨tv,tv,tv,⟨(o2 E0 hfn hp x0 hx0 h1),(o3 E0 hfn hp x0 hx0 h1)⟩,tv,⟨⟨⟨rfl,rfl,rfl,tv⟩,tv⟩,(fun i2=>(fun h3=>(o4 E0 hfn hp x0 hx0 h1 i2 h3)))⟩,tv⟩ ?_
  refine swp_cond (p (l.getD x0 default)) (by kernel_rfl) (fun h4 => ?_) (fun h4 => ?_)
  ·refine swp_seq ?_
   refine sQ (kt:=[4]) (kh:=[]) (q:=tn 2) (st':=ASt.mk [(4,iv (x0:Int))] [] 10120) (tp 2) ?_
   refine swp_ret ?_
   exact rQ [] ((True/\True)/\(zN (iv (x0:Int)) (iv (idxG l p)))/\T3) ⟨⟨tv,tv⟩,⟨(congrArg iv (o5 E0 hfn hp x0 hx0 h1 h4)),rfl⟩,rfl,rfl,rfl⟩
  ·refine swp_skip ?_
   refine sQ (kt:=[0,1,7,8]) (kh:=[]) (q:=inI ((x0:Int) + 1)/\True/\True) (st':=ASt.mk [(0,aMrks l),(1,.fn 0),(7,iv (↑(l.length):Int)),(8,iv ((x0:Int) + 1))] [] 10120) ⟨(o6 E0 hfn hp x0 hx0 h1 h4),tv,tv⟩ ?_
   exact loop_next (z157_1 l p) x0 (eQ hE [] [] [0,1,7] [] (((zT (aMrks l))/\(zT (AV.fn 0))/\(zT (iv (↑(l.length):Int)))/\(zN (iv ((x0:Int) + 1)) (iv (↑(x0 + 1):Int)))/\True)/\True/\T2) ⟨⟨⟨rfl,rfl⟩,⟨rfl,rfl⟩,⟨rfl,rfl⟩,⟨(congrArg iv (o7 E0 hfn hp x0 hx0 h1 h4)),rfl⟩,tv⟩,tv,rfl,rfl⟩) (o8 E0 hfn hp x0 hx0 h1 h4) (o9 E0 hfn hp x0 hx0 h1 h4)
 ·refine swp_exit (swp_seq ?_)
  refine sQ (kt:=[4]) (kh:=[]) (q:=True/\True) (st':=ASt.mk [(4,iv (-1))] [] 10048) ⟨tv,tv⟩ ?_
  refine swp_ret ?_
  exact rQ [] ((True/\True)/\(zN (iv (-1)) (iv (idxG l p)))/\T3) ⟨⟨tv,tv⟩,⟨(congrArg iv (o10 E0 hfn hp x0 hx0 h1)),rfl⟩,rfl,rfl,rfl⟩
theorem t157 (l:List Mrk) (p:Mrk->Bool):Triple Try.prog 157 (s157 l p):=by
 apply w157
 case o4=>intro E0 hfn hp x hx hl u hu; exact hfn u hu _
 case o5=>intro E0 hfn hp x hx hl h; simp only [decide_eq_true_eq] at hl; exact (idxG_found (by omega) hx.2 h).symm
 case o8=>intro E0 hfn hp x hx hl h; simp only [decide_eq_true_eq] at hl; exact ⟨by omega,lt_succ_cases hx.2 h⟩
 case o10=>intro E0 hfn hp x hx hl; simp only [decide_eq_false_iff_not] at hl; exact (idxG_none (fun j hj=>hx.2 j (by omega))).symm
 all_goals (first | ((repeat intro _) <;> (try simp only [v0,v1,v2,v3,v4,v5,v6,v7,v8,v9,inI,fits,Go.Sh.small] at *) <;> first | (exact rfl) | omega | exact vz | (simp_all; done) | (simp_all; omega)) | skip)
theorem w143 (l:List Mrk) (p:Mrk->Bool)
  (o0:∀ (E0:Env),fnokOf Try.prog 0 (fun (m:Mrk)=>[vMrk m]) (fun (m:Mrk)=>bv (p m)) E0->l.length<=1125899906842624 -> ∀ (i0:Env) (i1:List Value),Env.le E0 i0->i1.length=2->(∀ (k:Nat),Rel i0 true (List.getD [aMrks l,AV.fn 0] k AV.any) (i1.getD k undef))->fnokOf Try.prog 0 (fun (m:Mrk)=>[vMrk m]) (fun (m:Mrk)=>bv (p m)) (Env.mk i0.1 i0.2 i0.3 fun (k:Nat) (u:Value) => ∃ (i:Nat),[aMrks l,AV.fn 0][i]? = some (AV.fn k)/\i1[i]? = some u))
  (o1:∀ (E0:Env),fnokOf Try.prog 0 (fun (m:Mrk)=>[vMrk m]) (fun (m:Mrk)=>bv (p m)) E0->l.length<=1125899906842624->decide (0<=idxG l p)=List.any l p) :
  Triple Try.prog 143 (s143 l p):=by
 refine triple_of Try.func143 rfl Try.call143 T0_ok _ rfl rfl rfl rfl (Nat.le_of_ble_eq_true (by kernel_rfl)) fnokOf_congr ?_
 intro hp C hC hfn hE
 obtain ⟨P,w0,E0,av,hA⟩:=C
 subst hC
 refine swp_seq ?_
 refine sQ (kt:=[0,1]) (kh:=[]) (q:=True/\True) (st':=ASt.mk [(0,aMrks l),(1,.fn 0)] [] 8) ⟨tv,tv⟩ ?_
 refine swp_seq ?_
 refine sC (cs:=[(2,CallSpec.eq (c143 l p) [true,true])]) (kt:=[4]) (kh:=[]) (q:=True/\True/\((zE (aMrks l)/\zE (AV.fn 0)/\True)/\Triple Try.prog 157 (c143 l p)/\l.length<=1125899906842624/\True /\ ∀ (i0:Env) (i1:List Value),Env.le E0 i0->i1.length=2->(∀ (k:Nat),Rel i0 true (List.getD [aMrks l,AV.fn 0] k AV.any) (i1.getD k undef))->fnokOf Try.prog 0 (fun (m:Mrk)=>[vMrk m]) (fun (m:Mrk)=>bv (p m)) (Env.mk i0.1 i0.2 i0.3 fun (k:Nat) (u:Value) => ∃ (i:Nat),[aMrks l,AV.fn 0][i]? = some (AV.fn k)/\i1[i]? = some u))/\tn 2) (st':=ASt.mk [(4,bv (decide (0<=idxG l p)))] [] 48) ⟨tv,tv,⟨⟨rfl,rfl,tv⟩,(t157 _ _),hp,tv,(fun i0=>(fun i1=>(fun h2=>(fun h3=>(fun h4=>(o0 E0 hfn hp i0 i1 h2 h3 h4))))))⟩,tp 2⟩ ?_
 refine swp_ret ?_
 exact rQ [] ((True/\True)/\(zN (bv (decide (0<=idxG l p))) (bv (List.any l p)))/\T3) ⟨⟨tv,tv⟩,⟨(congrArg bv (o1 E0 hfn hp)),rfl⟩,rfl,rfl,rfl⟩
theorem t143 (l:List Mrk) (p:Mrk->Bool):Triple Try.prog 143 (s143 l p):=by
 apply w143
 case o0 =>
  intro E0 hfn hp E us le hl hr
  refine fnok_pass 1 (fun j' h => ?_) rfl hfn E us le hl hr
  match j',h with
  | 0,h=>cases h
  | 1,_=>rfl
  | n + 2,h=>simp at h
 case o1=>(repeat intro _); exact idxG_any _ _
 all_goals (first | ((repeat intro _) <;> (try simp only [v0,v1,v2,v3,v4,v5,v6,v7,v8,v9,inI,fits,Go.Sh.small] at *) <;> first | (exact rfl) | omega | exact vz | (simp_all; done) | (simp_all; omega)) | skip)
abbrev z129_1 (h:Hs):LoopAnn:=Hint.ann (h129 h) [(1,AV.ptr 0 []),(17,AV.sl 4 (Hs.things h).length fun (i:Nat)=>cThg (thg h i)),(18,iv (↑((Hs.things h).length):Int))] [(0,OB.cells 80 (cHs h))] 10128
abbrev q129_1 (h:Hs) (C:Nat->Prop):Prop:=okH h=true -> ∀ (x9:Nat),x9<=(Hs.things h).length->decide ((x9:Int) < (↑((Hs.things h).length):Int))=true->C x9
abbrev q129_2 (h:Hs) (C:Nat->Prop):Prop:=q129_1 h fun x9=>(bif decide (0 < (x9:Int)) then within (Thg.off (thg h x9)) 0 ((x9:Int) - 1) else false)=true->C x9
abbrev q129_3 (h:Hs) (C:Nat->Prop):Prop:=q129_1 h fun x9=>(bif decide (0 < (x9:Int)) then within (Thg.off (thg h x9)) 0 ((x9:Int) - 1) else false)=false->C x9
abbrev q129_4 (h:Hs) (C:Nat->Prop):Prop:=okH h=true -> ∀ (x9:Nat),x9<=(Hs.things h).length->decide ((x9:Int) < (↑((Hs.things h).length):Int))=false->C x9
theorem w129 (h:Hs)
 (o0:okH h=true->decide (8 < (↑((Hs.things h).length):Int))=false->(!decide (8 < (↑((Hs.things h).length):Int)))=true)
 (o1:okH h=true->(bif decide (8 < (↑((Hs.things h).length):Int)) then true else decide (6 < (↑((Hs.marks h).length):Int)))=false)
 (o2:okH h=true->0=(↑0:Int))
 (o3:okH h=true->0<=List.length (Hs.things h))
 (o4:q129_1 h fun x9=>0<=(x9:Int))
 (o5:q129_1 h fun x9=>(x9:Int) < (↑((Hs.things h).length):Int))
 (o6:q129_1 h fun x9=>decide (0 < (x9:Int))=true->inI ((x9:Int) - 1))
 (o7:q129_2 h fun x9=>0<=Thg.off (thg h x9))
 (o8:q129_2 h fun x9=>Thg.off (thg h x9) < (↑((Hs.things h).length):Int))
 (o9:q129_2 h fun x9=>(!within (Thg.at_ (thg h x9)) (Thg.at_ (thg h (Thg.off (thg h x9)).toNat)) 99)=false->(!!within (Thg.at_ (thg h x9)) (Thg.at_ (thg h (Thg.off (thg h x9)).toNat)) 99)=true)
 (o10:q129_2 h fun x9=>(bif !within (Thg.at_ (thg h x9)) (Thg.at_ (thg h (Thg.off (thg h x9)).toNat)) 99 then true else !within (Thg.cost (thg h x9)) 0 99)=false->(!bif !within (Thg.at_ (thg h x9)) (Thg.at_ (thg h (Thg.off (thg h x9)).toNat)) 99 then true else !within (Thg.cost (thg h x9)) 0 99)=true)
 (o11:q129_2 h fun x9=>(bif bif !within (Thg.at_ (thg h x9)) (Thg.at_ (thg h (Thg.off (thg h x9)).toNat)) 99 then true else !within (Thg.cost (thg h x9)) 0 99 then true else !within (Thg.prints (thg h x9)) 0 1)=false)
 (o12:q129_2 h fun x9=>inI ((x9:Int) + 1))
 (o13:q129_2 h fun x9=>(x9:Int) + 1=(↑(x9 + 1):Int))
 (o14:q129_2 h fun x9=>x9 + 1<=(Hs.things h).length)
 (o15:q129_2 h fun x9=>(Hs.things h).length - (x9 + 1) < (Hs.things h).length - x9)
 (o16:q129_3 h fun x9=>(!decide (Thg.off (thg h x9) = -1))=false)
 (o17:q129_3 h fun x9=>(!within (Thg.at_ (thg h x9)) 0 99)=false->(!!within (Thg.at_ (thg h x9)) 0 99)=true)
 (o18:q129_3 h fun x9=>(bif !within (Thg.at_ (thg h x9)) 0 99 then true else !within (Thg.cost (thg h x9)) 0 99)=false->(!bif !within (Thg.at_ (thg h x9)) 0 99 then true else !within (Thg.cost (thg h x9)) 0 99)=true)
 (o19:q129_3 h fun x9=>(bif bif !within (Thg.at_ (thg h x9)) 0 99 then true else !within (Thg.cost (thg h x9)) 0 99 then true else !within (Thg.prints (thg h x9)) 0 1)=false)
 (o20:q129_3 h fun x9=>inI ((x9:Int) + 1))
 (o21:q129_3 h fun x9=>(x9:Int) + 1=(↑(x9 + 1):Int))
 (o22:q129_3 h fun x9=>x9 + 1<=(Hs.things h).length)
 (o23:q129_3 h fun x9=>(Hs.things h).length - (x9 + 1) < (Hs.things h).length - x9)
 (o24:q129_4 h fun x9=>(Hs.marks h).length<=1125899906842624)
 (o25:∀ (E0:Env),okH h=true -> ∀ (x9:Nat),x9<=(Hs.things h).length->decide ((x9:Int) < (↑((Hs.things h).length):Int))=false -> ∀ (i66:Env) (i67:List Value),Env.le E0 i66->i67.length=2->(∀ (k:Nat),Rel i66 true (List.getD [aMrks (Hs.marks h),AV.clo 144 [AV.rp (cHs h)]] k AV.any) (i67.getD k undef))->fnokOf Try.prog 0 (fun (m:Mrk)=>[vMrk m]) (fun (m:Mrk)=>bv !okM h m) (Env.mk i66.1 i66.2 i66.3 fun (k:Nat) (u:Value) => ∃ (i:Nat),[aMrks (Hs.marks h),AV.fn 0][i]? = some (AV.fn k)/\i67[i]? = some u))
 (o26:q129_4 h fun x9=>(List.any (Hs.marks h) fun (m:Mrk) => !okM h m)=false) :
  Triple Try.prog 129 (s129 h):=by
 refine triple_of Try.func129 rfl Try.call129 T0_ok _ rfl rfl rfl rfl (Nat.le_of_ble_eq_true (by kernel_rfl)) (fun _ _ _ _ h=>h) ?_
 intro hp C hC _ hE
 obtain ⟨P,w0,E0,av,hA⟩:=C
 subst hC
 refine swp_seq ?_
 refine sQ (kt:=[1]) (kh:=[0]) (q:=tn 2) (st':=ASt.mk [(1,.ptr 0 [])] [(0,.cells 80 (cHs h))] 16) (tp 2) ?_
 refine swp_seq (swp_seq ?_)
 refine sQ (kt:=[1,15]) (kh:=[0]) (q:=True/\True/\True/\True/\True/\((!decide (8 < (↑((Hs.things h).length):Int)))->(True/\True)/\True)/\((!decide (8 < (↑((Hs.things h).length):Int)))->(((!decide (8 < (↑((Hs.things h).length):Int)))->(!decide (8 < (↑((Hs.things h).length):Int)))=true)/\True)/\True)/\((!decide (8 < (↑((Hs.things h).length):Int)))->(((!decide (8 < (↑((Hs.things h).length):Int)))->(!decide (8 < (↑((Hs.things h).length):Int)))=true)/\True)/\True)/\((!decide (8 < (↑((Hs.things h).length):Int)))->(((!decide (8 < (↑((Hs.things h).length):Int)))->(!decide (8 < (↑((Hs.things h).length):Int)))=true)/\True/\True)/\True)/\((decide (8 < (↑((Hs.things h).length):Int))=true->True)/\(decide (8 < (↑((Hs.things h).length):Int))=false->(!decide (8 < (↑((Hs.things h).length):Int)))=true))/\True) (st':=ASt.mk [(1,.ptr 0 []),(15,bv (bif decide (8 < (↑((Hs.things h).length):Int)) then true else decide (6 < (↑((Hs.marks h).length):Int))))] [(0,.cells 80 (cHs h))] 96) ⟨tv,tv,tv,tv,tv,(fun h0=>⟨⟨tv,tv⟩,tv⟩),(fun h1=>⟨⟨(fun h2=>h1),tv⟩,tv⟩),(fun h3=>⟨⟨(fun h4=>h3),tv⟩,tv⟩),(fun h5=>⟨⟨(fun h6=>h5),tv,tv⟩,tv⟩),⟨(fun h7=>tv),(fun h8=>(o0 hp h8))⟩,tv⟩ ?_
 refine swp_cond (bif decide (8 < (↑((Hs.things h).length):Int)) then true else decide (6 < (↑((Hs.marks h).length):Int))) (by kernel_rfl) (fun h=>by cases (h.symm.trans (o1 hp))) (fun _ => ?_)
 refine swp_skip (swp_seq (swp_seq ?_))
 refine sQ (kt:=[1,17,18,19]) (kh:=[0]) (q:=tn 4) (st':=ASt.mk [(1,.ptr 0 []),(17,.sl 4 (Hs.things h).length fun (i:Nat)=>cThg (thg h i)),(18,iv (↑((Hs.things h).length):Int)),(19,iv 0)] [(0,.cells 80 (cHs h))] 128) (tp 4) ?_
 refine swp_block ?_
 refine swp_loopA (z129_1 h) (eQ hE [] [(0,.same 0)] [17,18] [0] (((zP 0)/\(zT (AV.sl 4 (Hs.things h).length fun (i:Nat)=>cThg (thg h i)))/\(zT (iv (↑((Hs.things h).length):Int)))/\(zN (iv 0) (iv (↑0:Int)))/\True)/\((zT (OB.cells 80 (cHs h)))/\True)/\T2) ⟨⟨⟨rfl,rfl⟩,⟨rfl,rfl⟩,⟨rfl,rfl⟩,⟨(congrArg iv (o2 hp)),rfl⟩,tv⟩,⟨⟨rfl,rfl⟩,tv⟩,rfl,rfl⟩) (o3 hp) (fun (x9:Nat) hx9 => ?_)
 refine swp_seq ?_
 refine sQ (kt:=[1,17,18,19,20]) (kh:=[0]) (q:=True/\True) (st':=ASt.mk [(1,.ptr 0 []),(17,.sl 4 (Hs.things h).length fun (i:Nat)=>cThg (thg h i)),(18,iv (↑((Hs.things h).length):Int)),(19,iv (x9:Int)),(20,bv (decide ((x9:Int) < (↑((Hs.things h).length):Int))))] [(0,.cells 80 (cHs h))] 10136) ⟨tv,tv⟩ ?_
 refine swp_seq ?_
 refine swp_cond (decide ((x9:Int) < (↑((Hs.things h).length):Int))) (by kernel_rfl) (fun h10 => ?_) (fun h10 => ?_)
 ·refine swp_skip (swp_seq (swp_block (swp_seq ?_)))
  refine sQ (kt:=[1,17,18,19,4,3]) (kh:=[0,10160]) (q:=True/\(0<=(x9:Int)/\(x9:Int) < (↑((Hs.things h).length):Int))/\tn 4) (st':=ASt.mk [(1,.ptr 0 []),(17,.sl 4 (Hs.things h).length fun (i:Nat)=>cThg (thg h i)),(18,iv (↑((Hs.things h).length):Int)),(19,iv (x9:Int)),(4,.ptr 10160 []),(3,iv (x9:Int))] [(0,.cells 80 (cHs h)),(10160,.cells 88 (cThg (thg h x9)))] 10184) ⟨tv,⟨(o4 hp x9 hx9 h10),(o5 hp x9 hx9 h10)⟩,tp 4⟩ ?_
  refine swp_seq ?_
  refine sQ (kt:=[1,17,18,19,4,3,5]) (kh:=[0,10160]) (q:=True/\True) (st':=ASt.mk [(1,.ptr 0 []),(17,.sl 4 (Hs.things h).length fun (i:Nat)=>cThg (thg h i)),(18,iv (↑((Hs.things h).length):Int)),(19,iv (x9:Int)),(4,.ptr 10160 []),(3,iv (x9:Int)),(5,iv 0)] [(0,.cells 80 (cHs h)),(10160,.cells 88 (cThg (thg h x9)))] 10192) ⟨tv,tv⟩ ?_
  refine swp_seq (swp_seq ?_)
  refine sC (cs:=[(7,CallSpec.eq (s130 (Thg.off (thg h x9)) 0 ((x9:Int) - 1)) [true,true,true])]) (kt:=[1,17,18,19,4,5,32]) (kh:=[0,10160]) (q:=True/\True/\True/\(decide (0 < (x9:Int))=true->(True/\True)/\True)/\(decide (0 < (x9:Int))=true->((decide (0 < (x9:Int))=true->decide (0 < (x9:Int))=true)/\True)/\True)/\(decide (0 < (x9:Int))=true->(True/\True)/\True)/\(decide (0 < (x9:Int))=true->((decide (0 < (x9:Int))=true->decide (0 < (x9:Int))=true)/\True/\True)/\inI ((x9:Int) - 1))/\(decide (0 < (x9:Int))=true->(True/\(decide (0 < (x9:Int))=true->decide (0 < (x9:Int))=true)/\True/\(decide (0 < (x9:Int))=true->decide (0 < (x9:Int))=true)/\True)/\(zE (iv (Thg.off (thg h x9)))/\iv 0=iv 0/\zE (iv ((x9:Int) - 1))/\True)/\Triple Try.prog 130 (s130 (Thg.off (thg h x9)) 0 ((x9:Int) - 1))/\True/\True /\ ∀ (i20:Env),True)/\((decide (0 < (x9:Int))=true->decide (0 < (x9:Int))=true)/\(decide (0 < (x9:Int))=false->True))/\True) (st':=ASt.mk [(1,.ptr 0 []),(17,.sl 4 (Hs.things h).length fun (i:Nat)=>cThg (thg h i)),(18,iv (↑((Hs.things h).length):Int)),(19,iv (x9:Int)),(4,.ptr 10160 []),(5,iv 0),(32,bv (bif decide (0 < (x9:Int)) then within (Thg.off (thg h x9)) 0 ((x9:Int) - 1) else false))] [(0,.cells 80 (cHs h)),(10160,.cells 88 (cThg (thg h x9)))] 10264) ⟨tv,tv,tv,(fun h11=>⟨⟨tv,tv⟩,tv⟩),(fun h12=>⟨⟨(fun h13=>h12),tv⟩,tv⟩),(fun h14=>⟨⟨tv,tv⟩,tv⟩),(fun h15=>⟨⟨(fun h16=>h15),tv,tv⟩,(o6 hp x9 hx9 h10 h15)⟩),(fun h17=>⟨⟨tv,(fun h18=>h17),tv,(fun h19=>h17),tv⟩,⟨rfl,rfl,rfl,tv⟩,(t130 (Thg.off (thg h x9)) (0) ((x9:Int) - 1)),tv,tv,(fun i20=>tv)⟩),⟨(fun h21=>h21),(fun h22=>tv)⟩,tv⟩ ?_
  refine swp_cond (bif decide (0 < (x9:Int)) then within (Thg.off (thg h x9)) 0 ((x9:Int) - 1) else false) (by kernel_rfl) (fun h23 => ?_) (fun h23 => ?_)
  ·refine sQ (kt:=[1,17,18,19,4,5]) (kh:=[0,10160]) (q:=True/\True/\True/\True/\(0<=Thg.off (thg h x9)/\Thg.off (thg h x9) < (↑((Hs.things h).length):Int))/\tn 3) (st':=ASt.mk [(1,.ptr 0 []),(17,.sl 4 (Hs.things h).length fun (i:Nat)=>cThg (thg h i)),(18,iv (↑((Hs.things h).length):Int)),(19,iv (x9:Int)),(4,.ptr 10160 []),(5,iv (Thg.at_ (thg h (Thg.off (thg h x9)).toNat)))] [(0,.cells 80 (cHs h)),(10160,.cells 88 (cThg (thg h x9)))] 10328) ⟨tv,tv,tv,tv,⟨(o7 hp x9 hx9 h10 h23),(o8 hp x9 hx9 h10 h23)⟩,tp 3⟩ ?_
   refine swp_seq ?_
   refine sC (cs:=[(3,CallSpec.eq (s130 (Thg.at_ (thg h x9)) (Thg.at_ (thg h (Thg.off (thg h x9)).toNat)) 99) [true,true,true]),(8,CallSpec.eq (s130 (Thg.cost (thg h x9)) 0 99) [true,true,true]),(14,CallSpec.eq (s130 (Thg.prints (thg h x9)) 0 1) [true,true,true])]) (kt:=[1,17,18,19,59]) (kh:=[0]) (q:=True/\True/\True/\((zE (iv (Thg.at_ (thg h x9)))/\zE (iv (Thg.at_ (thg h (Thg.off (thg h x9)).toNat)))/\iv 99=iv 99/\True)/\Triple Try.prog 130 (s130 (Thg.at_ (thg h x9)) (Thg.at_ (thg h (Thg.off (thg h x9)).toNat)) 99)/\True/\True /\ ∀ (i24:Env),True)/\True/\True/\((!!within (Thg.at_ (thg h x9)) (Thg.at_ (thg h (Thg.off (thg h x9)).toNat)) 99)=true->(True/\True)/\True)/\((!!within (Thg.at_ (thg h x9)) (Thg.at_ (thg h (Thg.off (thg h x9)).toNat)) 99)=true->(((!!within (Thg.at_ (thg h x9)) (Thg.at_ (thg h (Thg.off (thg h x9)).toNat)) 99)=true->(!!within (Thg.at_ (thg h x9)) (Thg.at_ (thg h (Thg.off (thg h x9)).toNat)) 99)=true)/\True)/\True)/\((!!within (Thg.at_ (thg h x9)) (Thg.at_ (thg h (Thg.off (thg h x9)).toNat)) 99)=true->(True/\((!!within (Thg.at_ (thg h x9)) (Thg.at_ (thg h (Thg.off (thg h x9)).toNat)) 99)=true->(!!within (Thg.at_ (thg h x9)) (Thg.at_ (thg h (Thg.off (thg h x9)).toNat)) 99)=true)/\True/\True/\True)/\(zE (iv (Thg.cost (thg h x9)))/\iv 0=iv 0/\iv 99=iv 99/\True)/\Triple Try.prog 130 (s130 (Thg.cost (thg h x9)) 0 99)/\True/\True /\ ∀ (i30:Env),True)/\((!!within (Thg.at_ (thg h x9)) (Thg.at_ (thg h (Thg.off (thg h x9)).toNat)) 99)=true->(((!!within (Thg.at_ (thg h x9)) (Thg.at_ (thg h (Thg.off (thg h x9)).toNat)) 99)=true->(!!within (Thg.at_ (thg h x9)) (Thg.at_ (thg h (Thg.off (thg h x9)).toNat)) 99)=true)/\True)/\True)/\(((!within (Thg.at_ (thg h x9)) (Thg.at_ (thg h (Thg.off (thg h x9)).toNat)) 99)=true->True)/\((!within (Thg.at_ (thg h x9)) (Thg.at_ (thg h (Thg.off (thg h x9)).toNat)) 99)=false->(!!within (Thg.at_ (thg h x9)) (Thg.at_ (thg h (Thg.off (thg h x9)).toNat)) 99)=true))/\True/\((!bif !within (Thg.at_ (thg h x9)) (Thg.at_ (thg h (Thg.off (thg h x9)).toNat)) 99 then true else !within (Thg.cost (thg h x9)) 0 99)=true->(True/\True)/\True)/\((!bif !within (Thg.at_ (thg h x9)) (Thg.at_ (thg h (Thg.off (thg h x9)).toNat)) 99 then true else !within (Thg.cost (thg h x9)) 0 99)=true->(((!bif !within (Thg.at_ (thg h x9)) (Thg.at_ (thg h (Thg.off (thg h x9)).toNat)) 99 then true else !within (Thg.cost (thg h x9)) 0 99)=true->(!bif !within (Thg.at_ (thg h x9)) (Thg.at_ (thg h (Thg.off (thg h x9)).toNat)) 99 then true else !within (Thg.cost (thg h x9)) 0 99)=true)/\True)/\True)/\((!bif !within (Thg.at_ (thg h x9)) (Thg.at_ (thg h (Thg.off (thg h x9)).toNat)) 99 then true else !within (Thg.cost (thg h x9)) 0 99)=true->(True/\((!bif !within (Thg.at_ (thg h x9)) (Thg.at_ (thg h (Thg.off (thg h x9)).toNat)) 99 then true else !within (Thg.cost (thg h x9)) 0 99)=true->(!bif !within (Thg.at_ (thg h x9)) (Thg.at_ (thg h (Thg.off (thg h x9)).toNat)) 99 then true else !within (Thg.cost (thg h x9)) 0 99)=true)/\True/\True/\True)/\(zE (iv (Thg.prints (thg h x9)))/\iv 0=iv 0/\iv 1=iv 1/\True)/\Triple Try.prog 130 (s130 (Thg.prints (thg h x9)) 0 1)/\True/\True /\ ∀ (i40:Env),True)/\((!bif !within (Thg.at_ (thg h x9)) (Thg.at_ (thg h (Thg.off (thg h x9)).toNat)) 99 then true else !within (Thg.cost (thg h x9)) 0 99)=true->(((!bif !within (Thg.at_ (thg h x9)) (Thg.at_ (thg h (Thg.off (thg h x9)).toNat)) 99 then true else !within (Thg.cost (thg h x9)) 0 99)=true->(!bif !within (Thg.at_ (thg h x9)) (Thg.at_ (thg h (Thg.off (thg h x9)).toNat)) 99 then true else !within (Thg.cost (thg h x9)) 0 99)=true)/\True)/\True)/\(((bif !within (Thg.at_ (thg h x9)) (Thg.at_ (thg h (Thg.off (thg h x9)).toNat)) 99 then true else !within (Thg.cost (thg h x9)) 0 99)=true->True)/\((bif !within (Thg.at_ (thg h x9)) (Thg.at_ (thg h (Thg.off (thg h x9)).toNat)) 99 then true else !within (Thg.cost (thg h x9)) 0 99)=false->(!bif !within (Thg.at_ (thg h x9)) (Thg.at_ (thg h (Thg.off (thg h x9)).toNat)) 99 then true else !within (Thg.cost (thg h x9)) 0 99)=true))/\True) (st':=ASt.mk [(1,.ptr 0 []),(17,.sl 4 (Hs.things h).length fun (i:Nat)=>cThg (thg h i)),(18,iv (↑((Hs.things h).length):Int)),(19,iv (x9:Int)),(59,bv (bif bif !within (Thg.at_ (thg h x9)) (Thg.at_ (thg h (Thg.off (thg h x9)).toNat)) 99 then true else !within (Thg.cost (thg h x9)) 0 99 then true else !within (Thg.prints (thg h x9)) 0 1))] [(0,.cells 80 (cHs h))] 10464) ⟨tv,tv,tv,⟨⟨rfl,rfl,rfl,tv⟩,(t130 (Thg.at_ (thg h x9)) (Thg.at_ (thg h (Thg.off (thg h x9)).toNat)) (99)),tv,tv,(fun i24=>tv)⟩,tv,tv,(fun h25=>⟨⟨tv,tv⟩,tv⟩),(fun h26=>⟨⟨(fun h27=>h26),tv⟩,tv⟩),(fun h28=>⟨⟨tv,(fun h29=>h28),tv,tv,tv⟩,⟨rfl,rfl,rfl,tv⟩,(t130 (Thg.cost (thg h x9)) (0) (99)),tv,tv,(fun i30=>tv)⟩),(fun h31=>⟨⟨(fun h32=>h31),tv⟩,tv⟩),⟨(fun h33=>tv),(fun h34=>(o9 hp x9 hx9 h10 h23 h34))⟩,tv,(fun h35=>⟨⟨tv,tv⟩,tv⟩),(fun h36=>⟨⟨(fun h37=>h36),tv⟩,tv⟩),(fun h38=>⟨⟨tv,(fun h39=>h38),tv,tv,tv⟩,⟨rfl,rfl,rfl,tv⟩,(t130 (Thg.prints (thg h x9)) (0) (1)),tv,tv,(fun i40=>tv)⟩),(fun h41=>⟨⟨(fun h42=>h41),tv⟩,tv⟩),⟨(fun h43=>tv),(fun h44=>(o10 hp x9 hx9 h10 h23 h44))⟩,tv⟩ ?_
   refine swp_cond (bif bif !within (Thg.at_ (thg h x9)) (Thg.at_ (thg h (Thg.off (thg h x9)).toNat)) 99 then true else !within (Thg.cost (thg h x9)) 0 99 then true else !within (Thg.prints (thg h x9)) 0 1) (by kernel_rfl) (fun h=>by cases (h.symm.trans (o11 hp x9 hx9 h10 h23))) (fun _ => ?_)
   refine swp_skip ?_
   refine sQ (kt:=[1,17,18,19]) (kh:=[0]) (q:=inI ((x9:Int) + 1)/\True/\True) (st':=ASt.mk [(1,.ptr 0 []),(17,.sl 4 (Hs.things h).length fun (i:Nat)=>cThg (thg h i)),(18,iv (↑((Hs.things h).length):Int)),(19,iv ((x9:Int) + 1))] [(0,.cells 80 (cHs h))] 10480) ⟨(o12 hp x9 hx9 h10 h23),tv,tv⟩ ?_
   exact loop_next (z129_1 h) x9 (eQ hE [] [(0,.same 0)] [17,18] [0] (((zP 0)/\(zT (AV.sl 4 (Hs.things h).length fun (i:Nat)=>cThg (thg h i)))/\(zT (iv (↑((Hs.things h).length):Int)))/\(zN (iv ((x9:Int) + 1)) (iv (↑(x9 + 1):Int)))/\True)/\((zT (OB.cells 80 (cHs h)))/\True)/\T2) ⟨⟨⟨rfl,rfl⟩,⟨rfl,rfl⟩,⟨rfl,rfl⟩,⟨(congrArg iv (o13 hp x9 hx9 h10 h23)),rfl⟩,tv⟩,⟨⟨rfl,rfl⟩,tv⟩,rfl,rfl⟩) (o14 hp x9 hx9 h10 h23) (o15 hp x9 hx9 h10 h23)
  ·refine swp_seq ?_
   refine sQ (kt:=[1,17,18,19,4,5,42]) (kh:=[0,10160]) (q:=tn 3) (st':=ASt.mk [(1,.ptr 0 []),(17,.sl 4 (Hs.things h).length fun (i:Nat)=>cThg (thg h i)),(18,iv (↑((Hs.things h).length):Int)),(19,iv (x9:Int)),(4,.ptr 10160 []),(5,iv 0),(42,bv !decide (Thg.off (thg h x9) = -1))] [(0,.cells 80 (cHs h)),(10160,.cells 88 (cThg (thg h x9)))] 10288) (tp 3) ?_
   refine swp_cond (!decide (Thg.off (thg h x9) = -1)) (by kernel_rfl) (fun h=>by cases (h.symm.trans (o16 hp x9 hx9 h10 h23))) (fun _ => ?_)
   refine swp_skip (swp_seq ?_)
   refine sC (cs:=[(3,CallSpec.eq (s130 (Thg.at_ (thg h x9)) 0 99) [true,true,true]),(8,CallSpec.eq (s130 (Thg.cost (thg h x9)) 0 99) [true,true,true]),(14,CallSpec.eq (s130 (Thg.prints (thg h x9)) 0 1) [true,true,true])]) (kt:=[1,17,18,19,59]) (kh:=[0]) (q:=True/\True/\True/\((zE (iv (Thg.at_ (thg h x9)))/\iv 0=iv 0/\iv 99=iv 99/\True)/\Triple Try.prog 130 (s130 (Thg.at_ (thg h x9)) 0 99)/\True/\True /\ ∀ (i45:Env),True)/\True/\True/\((!!within (Thg.at_ (thg h x9)) 0 99)=true->(True/\True)/\True)/\((!!within (Thg.at_ (thg h x9)) 0 99)=true->(((!!within (Thg.at_ (thg h x9)) 0 99)=true->(!!within (Thg.at_ (thg h x9)) 0 99)=true)/\True)/\True)/\((!!within (Thg.at_ (thg h x9)) 0 99)=true->(True/\((!!within (Thg.at_ (thg h x9)) 0 99)=true->(!!within (Thg.at_ (thg h x9)) 0 99)=true)/\True/\True/\True)/\(zE (iv (Thg.cost (thg h x9)))/\iv 0=iv 0/\iv 99=iv 99/\True)/\Triple Try.prog 130 (s130 (Thg.cost (thg h x9)) 0 99)/\True/\True /\ ∀ (i51:Env),True)/\((!!within (Thg.at_ (thg h x9)) 0 99)=true->(((!!within (Thg.at_ (thg h x9)) 0 99)=true->(!!within (Thg.at_ (thg h x9)) 0 99)=true)/\True)/\True)/\(((!within (Thg.at_ (thg h x9)) 0 99)=true->True)/\((!within (Thg.at_ (thg h x9)) 0 99)=false->(!!within (Thg.at_ (thg h x9)) 0 99)=true))/\True/\((!bif !within (Thg.at_ (thg h x9)) 0 99 then true else !within (Thg.cost (thg h x9)) 0 99)=true->(True/\True)/\True)/\((!bif !within (Thg.at_ (thg h x9)) 0 99 then true else !within (Thg.cost (thg h x9)) 0 99)=true->(((!bif !within (Thg.at_ (thg h x9)) 0 99 then true else !within (Thg.cost (thg h x9)) 0 99)=true->(!bif !within (Thg.at_ (thg h x9)) 0 99 then true else !within (Thg.cost (thg h x9)) 0 99)=true)/\True)/\True)/\((!bif !within (Thg.at_ (thg h x9)) 0 99 then true else !within (Thg.cost (thg h x9)) 0 99)=true->(True/\((!bif !within (Thg.at_ (thg h x9)) 0 99 then true else !within (Thg.cost (thg h x9)) 0 99)=true->(!bif !within (Thg.at_ (thg h x9)) 0 99 then true else !within (Thg.cost (thg h x9)) 0 99)=true)/\True/\True/\True)/\(zE (iv (Thg.prints (thg h x9)))/\iv 0=iv 0/\iv 1=iv 1/\True)/\Triple Try.prog 130 (s130 (Thg.prints (thg h x9)) 0 1)/\True/\True /\ ∀ (i61:Env),True)/\((!bif !within (Thg.at_ (thg h x9)) 0 99 then true else !within (Thg.cost (thg h x9)) 0 99)=true->(((!bif !within (Thg.at_ (thg h x9)) 0 99 then true else !within (Thg.cost (thg h x9)) 0 99)=true->(!bif !within (Thg.at_ (thg h x9)) 0 99 then true else !within (Thg.cost (thg h x9)) 0 99)=true)/\True)/\True)/\(((bif !within (Thg.at_ (thg h x9)) 0 99 then true else !within (Thg.cost (thg h x9)) 0 99)=true->True)/\((bif !within (Thg.at_ (thg h x9)) 0 99 then true else !within (Thg.cost (thg h x9)) 0 99)=false->(!bif !within (Thg.at_ (thg h x9)) 0 99 then true else !within (Thg.cost (thg h x9)) 0 99)=true))/\True) (st':=ASt.mk [(1,.ptr 0 []),(17,.sl 4 (Hs.things h).length fun (i:Nat)=>cThg (thg h i)),(18,iv (↑((Hs.things h).length):Int)),(19,iv (x9:Int)),(59,bv (bif bif !within (Thg.at_ (thg h x9)) 0 99 then true else !within (Thg.cost (thg h x9)) 0 99 then true else !within (Thg.prints (thg h x9)) 0 1))] [(0,.cells 80 (cHs h))] 10424) ⟨tv,tv,tv,⟨⟨rfl,rfl,rfl,tv⟩,(t130 (Thg.at_ (thg h x9)) (0) (99)),tv,tv,(fun i45=>tv)⟩,tv,tv,(fun h46=>⟨⟨tv,tv⟩,tv⟩),(fun h47=>⟨⟨(fun h48=>h47),tv⟩,tv⟩),(fun h49=>⟨⟨tv,(fun h50=>h49),tv,tv,tv⟩,⟨rfl,rfl,rfl,tv⟩,(t130 (Thg.cost (thg h x9)) (0) (99)),tv,tv,(fun i51=>tv)⟩),(fun h52=>⟨⟨(fun h53=>h52),tv⟩,tv⟩),⟨(fun h54=>tv),(fun h55=>(o17 hp x9 hx9 h10 h23 h55))⟩,tv,(fun h56=>⟨⟨tv,tv⟩,tv⟩),(fun h57=>⟨⟨(fun h58=>h57),tv⟩,tv⟩),(fun h59=>⟨⟨tv,(fun h60=>h59),tv,tv,tv⟩,⟨rfl,rfl,rfl,tv⟩,(t130 (Thg.prints (thg h x9)) (0) (1)),tv,tv,(fun i61=>tv)⟩),(fun h62=>⟨⟨(fun h63=>h62),tv⟩,tv⟩),⟨(fun h64=>tv),(fun h65=>(o18 hp x9 hx9 h10 h23 h65))⟩,tv⟩ ?_
   refine swp_cond (bif bif !within (Thg.at_ (thg h x9)) 0 99 then true else !within (Thg.cost (thg h x9)) 0 99 then true else !within (Thg.prints (thg h x9)) 0 1) (by kernel_rfl) (fun h=>by cases (h.symm.trans (o19 hp x9 hx9 h10 h23))) (fun _ => ?_)
   refine swp_skip ?_
   refine sQ (kt:=[1,17,18,19]) (kh:=[0]) (q:=inI ((x9:Int) + 1)/\True/\True) (st':=ASt.mk [(1,.ptr 0 []),(17,.sl 4 (Hs.things h).length fun (i:Nat)=>cThg (thg h i)),(18,iv (↑((Hs.things h).length):Int)),(19,iv ((x9:Int) + 1))] [(0,.cells 80 (cHs h))] 10440) ⟨(o20 hp x9 hx9 h10 h23),tv,tv⟩ ?_
   exact loop_next (z129_1 h) x9 (eQ hE [] [(0,.same 0)] [17,18] [0] (((zP 0)/\(zT (AV.sl 4 (Hs.things h).length fun (i:Nat)=>cThg (thg h i)))/\(zT (iv (↑((Hs.things h).length):Int)))/\(zN (iv ((x9:Int) + 1)) (iv (↑(x9 + 1):Int)))/\True)/\((zT (OB.cells 80 (cHs h)))/\True)/\T2) ⟨⟨⟨rfl,rfl⟩,⟨rfl,rfl⟩,⟨rfl,rfl⟩,⟨(congrArg iv (o21 hp x9 hx9 h10 h23)),rfl⟩,tv⟩,⟨⟨rfl,rfl⟩,tv⟩,rfl,rfl⟩) (o22 hp x9 hx9 h10 h23) (o23 hp x9 hx9 h10 h23)
 ·refine swp_exit (swp_seq (swp_seq ?_))
  refine swp_ent (ent_fz 0 80 (cHs h) (ASt.mk [(1,AV.rp (cHs h)),(17,AV.sl 4 (Hs.things h).length fun (i:Nat)=>cThg (thg h i)),(18,iv (↑((Hs.things h).length):Int)),(19,iv (x9:Int)),(20,bv (decide ((x9:Int) < (↑((Hs.things h).length):Int))))] [] 10136) (by kernel_rfl) (by kernel_rfl) (by kernel_rfl)) ?_
  refine sC (cs:=[(3,CallSpec.eq (c129 h) [true,false])]) (kt:=[64]) (kh:=[]) (q:=True/\True/\True/\((zE (aMrks (Hs.marks h))/\True/\True)/\Triple Try.prog 143 (c129 h)/\(Hs.marks h).length<=1125899906842624/\True /\ ∀ (i66:Env) (i67:List Value),Env.le E0 i66->i67.length=2->(∀ (k:Nat),Rel i66 true (List.getD [aMrks (Hs.marks h),AV.clo 144 [AV.rp (cHs h)]] k AV.any) (i67.getD k undef))->fnokOf Try.prog 0 (fun (m:Mrk)=>[vMrk m]) (fun (m:Mrk)=>bv !okM h m) (Env.mk i66.1 i66.2 i66.3 fun (k:Nat) (u:Value) => ∃ (i:Nat),[aMrks (Hs.marks h),AV.fn 0][i]? = some (AV.fn k)/\i67[i]? = some u))/\True) (st':=ASt.mk [(64,bv (List.any (Hs.marks h) fun (m:Mrk) => !okM h m))] [] 10168) ⟨tv,tv,tv,⟨⟨rfl,tv,tv⟩,(t143 _ _),(o24 hp x9 hx9 h10),tv,(fun i66=>(fun i67=>(fun h68=>(fun h69=>(fun h70=>(o25 E0 hp x9 hx9 h10 i66 i67 h68 h69 h70))))))⟩,tv⟩ ?_
  refine swp_cond (List.any (Hs.marks h) fun (m:Mrk) => !okM h m) (by kernel_rfl) (fun h=>by cases (h.symm.trans (o26 hp x9 hx9 h10))) (fun _ => ?_)
  refine swp_skip (swp_seq ?_)
  refine sQ (kt:=[2]) (kh:=[]) (q:=True/\True) (st':=ASt.mk [(2,iv 0)] [] 10176) ⟨tv,tv⟩ ?_
  refine swp_ret ?_
  exact rQ [] ((True/\True)/\(zM (iv 0))/\T3) ⟨⟨tv,tv⟩,⟨rfl,rfl⟩,rfl,rfl,rfl⟩
theorem okT_facts {h:Hs} {i:Nat} (hh:okT h i=true):(-1<=(thg h i).off/\(thg h i).off<=(i:Int) - 1)/\(0<=(thg h i).at_/\(thg h i).at_<=99)/\((thg h i).off = -1 ∨ ¬ (thg h i).at_ < (thg h (thg h i).off.toNat).at_)/\within (thg h i).cost 0 99=true/\within (thg h i).prints 0 1=true:=by
 simp only [okT,Bool.and_eq_true,Bool.or_eq_true,Bool.not_eq_true',decide_eq_true_eq,decide_eq_false_iff_not] at hh
 obtain ⟨⟨⟨⟨a,b⟩,c⟩,e⟩,f⟩:=hh
 exact ⟨Go.Sh.within_iff.1 a,Go.Sh.within_iff.1 b,c,e,f⟩
theorem t129 (h:Hs):Triple Try.prog 129 (s129 h):=by
 apply w129
 case o25 =>
  intro E0 hok x hx hl E us le hlen hr
  obtain ⟨l1,l2,hT,hM⟩:=okH_iff.1 hok
  refine fnok_arg (vals:=[aMrks h.marks,.clo 144 [.rp (cHs h)]]) 1 (fun j' h => ?_) (fun E u hu m=>fnok_clo (caps:=[.rp (cHs h)]) (s144 m h) (t144 m h) rfl ⟨by omega,by omega⟩ (fun _=>trivial) rfl rfl rfl rfl rfl hu) E us le hlen hr
  match j',h with
  | 0,h=>cases h
  | 1,_=>rfl
  | n + 2,h=>simp at h
 all_goals (intro hok; obtain ⟨l1,l2,hT,hM⟩:=okH_iff.1 hok)
 case o1=>rw [decide_eq_false (by omega),decide_eq_false (by omega)]; rfl
 case o24=>intro x hx hl; omega
 case o26 =>
  intro x hx hl
  rw [List.any_eq_false]
  intro m hm
  rw [hM m hm]; simp
 all_goals (first | ((repeat intro _) <;> (try simp only [v0,v1,v2,v3,v4,v5,v6,v7,v8,v9,inI,fits,Go.Sh.small] at *) <;> first | (exact rfl) | omega | exact vz | (simp_all; done) | (simp_all; omega)) | skip)
 all_goals (intro x hx hl; simp only [decide_eq_true_eq] at hl; obtain ⟨f1,f2,f3,f4,f5⟩:=okT_facts (hT x (by omega)))
 case o7 | o8=>intro hh; simp only [Bool.cond_false_right,Bool.and_eq_true,Go.Sh.within_iff] at hh; omega
 case o11 =>
  intro hh
  simp only [Bool.cond_false_right,Bool.and_eq_true,Go.Sh.within_iff] at hh
  rw [f4,f5]
  have:within (thg h x).at_ (thg h (thg h x).off.toNat).at_ 99=true:=Go.Sh.within_iff.2 (by omega)
  rw [this]; rfl
 case o16 =>
  intro hh
  have:(thg h x).off = -1:=by
   rcases Nat.eq_zero_or_pos x with e | e
   ·omega
   ·rw [decide_eq_true (p:=(0:Int) < x) (by omega)] at hh
    have:¬ within (thg h x).off 0 ((x:Int) - 1)=true:=by rw [show within (thg h x).off 0 ((x:Int) - 1)=false from hh]; decide
    rw [Go.Sh.within_iff] at this
    omega
  rw [decide_eq_true this]; rfl
 case o19 =>
  intro hh
  rw [f4,f5,Go.Sh.within_iff.2 f2]; rfl
theorem w101 (h:Hs) (is:Bool)
  (o0:okH h=true/\is=true->(!is)=false) :
  Triple Try.prog 101 (s101 h is):=by
 refine triple_of Try.func101 rfl Try.call101 T0_ok _ rfl rfl rfl rfl (Nat.le_of_ble_eq_true (by kernel_rfl)) (fun _ _ _ _ h=>h) ?_
 intro hp C hC _ hE
 obtain ⟨P,w0,E0,av,hA⟩:=C
 subst hC
 refine swp_seq ?_
 refine sQ (kt:=[1,2]) (kh:=[0]) (q:=tn 2) (st':=ASt.mk [(1,bv is),(2,.ptr 0 [])] [(0,.cells 80 (cHs h))] 16) (tp 2) ?_
 refine swp_seq (swp_seq ?_)
 refine sC (cs:=[(1,CallSpec.eq (s129 h) [true])]) (kt:=[1,5]) (kh:=[]) (q:=True/\((zE (AV.agg (cHs h))/\True)/\Triple Try.prog 129 (s129 h)/\okH h=true/\True /\ ∀ (i0:Env),True)/\True/\True) (st':=ASt.mk [(1,bv is),(5,iv 0)] [] 40) ⟨tv,⟨⟨rfl,tv⟩,(t129 (h)),hp.1,tv,(fun i0=>tv)⟩,tv,tv⟩ ?_
 refine swp_seq ?_
 refine sQ (kt:=[1,5,9]) (kh:=[]) (q:=tn 2) (st':=ASt.mk [(1,bv is),(5,iv 0),(9,bv false)] [] 56) (tp 2) ?_
 refine swp_cond false (by kernel_rfl) (fun h=>by cases h) (fun _ => ?_)
 refine swp_skip (swp_seq (swp_seq ?_))
 refine sQ (kt:=[12]) (kh:=[]) (q:=tn 2) (st':=ASt.mk [(12,bv !is)] [] 72) (tp 2) ?_
 refine swp_cond (!is) (by kernel_rfl) (fun h=>by cases (h.symm.trans (o0 hp))) (fun _ => ?_)
 refine swp_skip (swp_seq ?_)
 refine sQ (kt:=[4]) (kh:=[]) (q:=True/\True) (st':=ASt.mk [(4,iv 0)] [] 80) ⟨tv,tv⟩ ?_
 refine swp_ret ?_
 exact rQ [] ((True/\True)/\(zM (iv 0))/\T3) ⟨⟨tv,tv⟩,⟨rfl,rfl⟩,rfl,rfl,rfl⟩
theorem t101 (h:Hs) (is:Bool):Triple Try.prog 101 (s101 h is):=by
 apply w101
 all_goals (first | ((repeat intro _) <;> (try simp only [v0,v1,v2,v3,v4,v5,v6,v7,v8,v9,inI,fits,Go.Sh.small] at *) <;> first | (exact rfl) | omega | exact vz | (simp_all; done) | (simp_all; omega)) | skip)
end Go.Ab
namespace Go.Ab
open Go Go.RowKit
theorem swp_cases {C:Ctx} {nt:Nat} {K:AX->ASt->Prop} {st:ASt} {c:Code} (b:Bool) (h1:b=true->SWP C nt c K st) (h2:b=false->SWP C nt c K st):SWP C nt c K st:=by
 cases b with
 | true=>exact h1 rfl
 | false=>exact h2 rfl
def hoIn (L:List (Nat × OB)):List (Nat × OB)->Prop
 | []=>True
 | p :: r=>Heap.of L p.1=some p.2/\hoIn L r
theorem hoIn_mem {L:List (Nat × OB)}:∀ {l:List (Nat × OB)},hoIn L l -> ∀ p ∈ l,Heap.of L p.1=some p.2:=by
 intro l
 induction l with
 | nil=>intro _ p hp; cases hp
 | cons q r ih =>
  intro h p hp
  cases hp with
  | head=>exact h.1
  | tail _ hp=>exact ih h.2 p hp
def retO (T:Tab) (rs:List ResultVar) (st:ASt) (res:AV) (hout:List (Nat × OB)):Prop :=
 match resVals T st rs with
 | some (q,rvs)=>q/\retAV rvs=res/\hoIn st.hp hout
 | none=>False
def RetO (C:Ctx) (nt:Nat) (T:Tab) (rs:List ResultVar) (res:AV) (hout:List (Nat × OB)):AX->ASt->Prop
 | .exit _,_=>False
 | _,st => ∃ st2,Ent C nt st st2/\retO T rs st2 res hout
def renI:List (Nat × Nat)->Nat->Nat
 | [],j=>j
 | p :: r,j=>if p.1=j then p.2 else renI r j
def renC (l:List (Nat × Nat)):AV->AV
 | .vec b => .vec (renI l b)
 | v=>v
def renV1 (l:List (Nat × Nat)):AV->AV
 | .agg cs => .agg (cs.map (renC l))
 | v=>renC l v
def renV (l:List (Nat × Nat)):AV->AV
 | .tup vs => .tup (vs.map (renV1 l))
 | v=>renV1 l v
def renB (l:List (Nat × Nat)):OB->OB
 | .vecx t sz n f j fj => .vecx t sz n f j (fj.map (renC l))
 | ob=>ob
def okC (ks:List Nat):AV->Bool
 | .vec b=>ks.contains b
 | v=>(ids v).isEmpty
def okV1 (ks:List Nat):AV->Bool
 | .agg cs=>cs.all (okC ks)
 | v=>okC ks v
def okV (ks:List Nat):AV->Bool
 | .tup vs=>vs.all (okV1 ks)
 | v=>okV1 ks v
def okB (ks:List Nat):OB->Bool
 | .vec _ _ _ _=>true
 | .vecx _ _ _ _ _ fj=>fj.all (okC ks) && noFnL fj
 | _=>false
structure OutSpec where
 args:List AV
 pre:Prop:=True
 res:AV
 hout:List (Nat × OB)
def OutSpec.at (s:OutSpec) (l:List (Nat × Nat)):CallSpec:={ args:=s.args,pre:=s.pre,res:=renV l s.res,hout:=s.hout.map (fun p=>(renI l p.1,renB l p.2)) }
theorem noDup_nodup:∀ {l:List Nat},noDup l=true->l.Nodup:=by
 intro l
 induction l with
 | nil=>intro _; exact List.nodup_nil
 | cons c l ih =>
  intro h
  obtain ⟨h1,h2⟩:=noDup_cons h
  exact List.nodup_cons.2 ⟨h1,ih h2⟩
structure Ren (l:List (Nat × Nat)) (E F:Env):Prop where
 M:∀ b o,E.M b=some o->F.M b=some o
 fns:F.fns=E.fns
 same:∀ c,c ∈ l.map (·.1)->F.blk (renI l c)=E.blk c/\F.hdr (renI l c)=E.hdr c
theorem renC_rel {l:List (Nat × Nat)} {E F:Env} (hr:Ren l E F) {v:AV} {u:Value} (ho:okC (l.map (·.1)) v=true) (h:Rel E true v u):Rel F true (renC l v) u:=by
 cases v with
 | vec b =>
  have hm:b ∈ l.map (·.1):=by simpa [okC] using ho
  cases h with
  | vec _ hh h1=>exact .vec _ (by rw [(hr.same b hm).2]; exact hh) h1
 | _ =>
  simp only [renC]
  simp only [okC,List.isEmpty_iff] at ho
  exact Rel.trim hr.M hr.fns h (fun _=>ho)
theorem renL_rel {l:List (Nat × Nat)} {E F:Env} (hr:Ren l E F):∀ {cs:List AV} {us:List Value},cs.all (okC (l.map (·.1)))=true->RelL E true cs us->RelL F true (cs.map (renC l)) us:=by
 intro cs
 induction cs with
 | nil=>intro us _ h; cases h; exact .nil
 | cons c cs ih =>
  intro us ho h
  simp only [List.all_cons,Bool.and_eq_true] at ho
  cases h with
  | cons h h1 hs=>exact .cons (renC_rel hr ho.1 h) h1 (ih ho.2 hs)
  | arr g hg h hs=>exact .arr g hg (fun i hi=>(h i hi).trim hr.M hr.fns) (ih ho.2 hs)
theorem renV1_rel {l:List (Nat × Nat)} {E F:Env} (hr:Ren l E F) {v:AV} {u:Value} (ho:okV1 (l.map (·.1)) v=true) (h:Rel E true v u):Rel F true (renV1 l v) u:=by
 cases v with
 | agg cs =>
  cases h with
  | agg hl=>exact .agg (renL_rel hr ho hl)
 | _ =>
  simp only [renV1]
  simp only [okV1] at ho
  exact renC_rel hr ho h
theorem renV_rel {l:List (Nat × Nat)} {E F:Env} (hr:Ren l E F) {v:AV} {u:Value} (ho:okV (l.map (·.1)) v=true) (h:Rel E true v u):Rel F true (renV l v) u:=by
 cases v with
 | tup vs =>
  cases h with
  | tup hl hk =>
   rename_i us
   refine .tup (by rw [List.length_map]; exact hl) fun k => ?_
   have h0:=hk k
   simp only [okV,List.all_eq_true] at ho
   by_cases hlt:k < vs.length
   ·have e1:(vs.map (renV1 l)).getD k .any=renV1 l (vs.getD k .any):=by
     simp [List.getD,List.getElem?_eq_getElem hlt]
    rw [e1]
    refine renV1_rel hr (ho _ ?_) h0
    simp [List.getD,List.getElem?_eq_getElem hlt]
   ·rw [List.getD_eq_getElem?_getD,List.getElem?_eq_none (by simpa using hlt)]
    exact .any _
 | _ =>
  simp only [renV]
  simp only [okV] at ho
  exact renV1_rel hr ho h
theorem renI_mem:∀ {l:List (Nat × Nat)} {c:Nat},c ∈ l.map (·.1)->(c,renI l c) ∈ l:=by
 intro l
 induction l with
 | nil=>intro c h; cases h
 | cons p r ih =>
  intro c h
  unfold renI
  split
  ·rename_i e; rw [← e]; exact List.mem_cons_self
  ·rename_i e
   refine List.mem_cons_of_mem _ (ih ?_)
   simp only [List.map_cons,List.mem_cons] at h
   rcases h with h | h
   ·exact absurd h.symm e
   ·exact h
def unI:List (Nat × Nat)->Nat->Option Nat
 | [],_=>none
 | p :: r,j=>if p.2=j then some p.1 else unI r j
theorem unI_of:∀ {l:List (Nat × Nat)},(l.map (·.2)).Nodup -> ∀ {c b:Nat},(c,b) ∈ l->unI l b=some c:=by
 intro l
 induction l with
 | nil=>intro _ c b h; cases h
 | cons p r ih =>
  intro hn c b h
  rw [List.map_cons,List.nodup_cons] at hn
  unfold unI
  cases h with
  | head=>rw [if_pos rfl]
  | tail _ h =>
   have:¬ p.2=b:=fun e=>hn.1 (by rw [e]; exact List.mem_map_of_mem (f:=fun x:Nat × Nat=>x.2) h)
   rw [if_neg this]
   exact ih hn.2 h
theorem unI_mem:∀ {l:List (Nat × Nat)} {c b:Nat},unI l b=some c->(c,b) ∈ l:=by
 intro l
 induction l with
 | nil=>intro c b h; cases h
 | cons p r ih =>
  intro c b h
  unfold unI at h
  split at h
  ·rename_i e; cases h; rw [← e]; exact List.mem_cons_self
  ·exact List.mem_cons_of_mem _ (ih h)
theorem triple_out {P:Program} {f:FuncId} {fn:Func} {c:Code} {T:Tab} (hf:P.funcs[f]? = some fn) (hb:fn.body=some c) (hcall:Callable P f) (hT:Tab.ok P T) (args:List AV) (pre:Prop) (res:AV) (hout:List (Nat × OB)) (l:List (Nat × Nat))
  (hargs:idsL args = []) (hn:args.length<=fn.ntmps) (hl1:l.map (·.1)=hout.map (·.1)) (hnd:(l.map (·.2)).Nodup) (hres:okV (hout.map (·.1)) res=true) (hob:hout.all (fun p=>okB (hout.map (·.1)) p.2)=true) (hnd1:noDup (hout.map (·.1))=true)
  (body:pre -> ∀ C:Ctx,C.P=P->(∀ j,C.E0.blk j=none/\C.E0.hdr j=none)->SWP C fn.ntmps c (RetO C fn.ntmps T fn.results.toList res hout) ⟨argsTm args 0,[],0⟩) :
  Triple P f ((⟨args,pre,res,hout⟩:OutSpec).at l):=by
 have hk:∀ p ∈ l,∃ ob,(p.1,ob) ∈ hout:=by
  intro p hp
  have:p.1 ∈ hout.map (·.1):=by rw [← hl1]; exact List.mem_map_of_mem (f:=fun x:Nat × Nat=>x.1) hp
  obtain ⟨q,hq,he⟩:=List.mem_map.1 this
  exact ⟨q.2,by rw [← he]; exact hq⟩
 replace hnd1:(l.map (·.1)).Nodup:=by rw [hl1]; exact noDup_nodup hnd1
 rw [← hl1] at hres
 replace hob:hout.all (fun p=>okB (l.map (·.1)) p.2 && (l.map (·.1)).contains p.1)=true:=by
  rw [List.all_eq_true] at hob ⊢
  intro p hp
  rw [hl1,hob p hp,Bool.true_and,List.contains_eq_mem]
  exact decide_eq_true (List.mem_map_of_mem (f:=fun x:Nat × OB=>x.1) hp)
 show Triple P f { args:=args,pre:=pre,res:=renV l res,hout:=hout.map (fun p=>(renI l p.1,renB l p.2)) }
 refine ⟨hcall,fun hpre E w vs _ hok hlen hrel hfresh => ?_⟩
 let E0:Env:={ E with blk:=fun _=>none,hdr:=fun _=>none }
 let C:Ctx:=calleeCtx P E0 w []
 have hok0:HeapOK C E0 (Heap.of []) w:=⟨rfl,rfl,rfl,Nat.le_refl _,fun _ _=>rfl,fun b o h=>hok.mem b o h,Env.le.refl _,fun b o h => .inl h,(fun i ob h=>by cases h),(fun i j k _ h=>absurd rfl h)⟩
 have htm:∀ t,Rel E0 true (look (argsTm args 0) t) ((vs.toArray ++ Array.replicate (fn.ntmps - vs.toArray.size) undef).getD t undef):=by
  intro t
  rw [look_args,if_pos (Nat.zero_le _),Nat.sub_zero]
  rcases Nat.lt_or_ge t vs.length with ht | ht
  ·have h1:(vs.toArray ++ Array.replicate (fn.ntmps - vs.toArray.size) undef).getD t undef=vs.getD t undef:=by
    simp only [Array.getD_eq_getD_getElem?,List.getD_eq_getElem?_getD]
    rw [Array.getElem?_append_left (by simpa using ht)]
    simp
   rw [h1]
   exact Rel.trim (E:=E) (F:=E0) (fun _ _ h=>h) rfl (hrel t) (fun _=>idsL_get hargs t)
  ·have hl':vs.length=args.length:=hlen
   rw [List.getD_eq_getElem?_getD,List.getElem?_eq_none (by omega)]
   exact .any _
 have hl':vs.length=args.length:=hlen
 have hsat:Sat C E0 fn.ntmps ⟨argsTm args 0,[],0⟩ w { tmps:=vs.toArray ++ Array.replicate (fn.ntmps - vs.toArray.size) undef,defers:=[] } :=
  ⟨⟨hok0,htm,rfl,by simp; omega⟩,fun j _=>⟨rfl,rfl⟩⟩
 have hsw:=body hpre C rfl (fun j=>⟨rfl,rfl⟩) E0 w _ hsat
 refine calls_of_wp hf hb (wp_mono hsw ?_)
 rintro e a' w' ⟨x,E1,st1,rfl,hs1,hk1⟩
 have fin:(∃ st2,Ent C fn.ntmps st1 st2/\retO T fn.results.toList st2 res hout)->a'.defers = [] /\ ∃ v,(results fn a'.tmps).run P w' = .ok v w'/\CallPost P { args:=args,pre:=pre,res:=renV l res,hout:=hout.map (fun p=>(renI l p.1,renB l p.2)) } E w (.returned v) w':=by
  rintro ⟨st2,hent,hq⟩
  obtain ⟨E',hs'⟩:=hent E1 w' a' hs1
  refine ⟨hs'.ok.defers,?_⟩
  unfold retO at hq
  split at hq
  ·rename_i q rvs hrv
   obtain ⟨hq0,hres0,hho⟩:=hq
   obtain ⟨us,hus,hul,hur⟩:=resVals_run (C:=C) hT hs' _ q rvs hrv hq0
   have hrun:=results_run (P:=P) hus
   refine ⟨_,hrun,?_⟩
   have hrv':Rel E' true (retAV rvs) (if h:us.length=1 then us[0] else .tuple us.toArray):=by
    cases rvs with
    | nil =>
     have:us = []:=List.eq_nil_of_length_eq_zero hul
     subst this
     exact .tup rfl (fun k=>hur k)
    | cons v r =>
     cases r with
     | nil =>
      have hul1:us.length=1:=hul
      rw [dif_pos hul1]
      have:=hur 0
      simp only [List.getD_cons_zero] at this
      rw [List.getD_eq_getElem?_getD,List.getElem?_eq_getElem (by omega)] at this
      exact this
     | cons v2 r =>
      have hne:¬ us.length=1:=by rw [hul]; simp
      rw [dif_neg hne]
      exact .tup (cs:=v :: v2 :: r) hul hur
   rw [hres0] at hrv'
   have hle:=hs'.ok.heap.le
   let F:Env:={ E with M:=E'.M,blk:=fun j=>match unI l j with | some c=>E'.blk c | none=>E.blk j,hdr:=fun j=>match unI l j with | some c=>E'.hdr c | none=>E.hdr j }
   have hfns:F.fns=E'.fns:=by
    show E.fns=E'.fns
    exact (hle.fns.symm:E0.fns=E'.fns)
   have hren:Ren l E' F:=by
    refine ⟨fun b o h=>h,hfns,fun c hc => ?_⟩
    have:=unI_of hnd (renI_mem hc)
    constructor
    ·show (match unI l (renI l c) with | some c=>E'.blk c | none=>E.blk (renI l c))=_
     rw [this]
    ·show (match unI l (renI l c) with | some c=>E'.hdr c | none=>E.hdr (renI l c))=_
     rw [this]
   have hinfo:∀ p ∈ hout,okB (l.map (·.1)) p.2=true/\p.1 ∈ l.map (·.1):=by
    intro p hp
    rw [List.all_eq_true] at hob
    have:=hob p hp
    simp only [Bool.and_eq_true,List.contains_eq_mem,decide_eq_true_eq] at this
    exact this
   have hfr:∀ j c,unI l j=some c->E.blk j=none/\E.hdr j=none:=by
    intro j c hj
    obtain ⟨ob,hob'⟩:=hk _ (unI_mem hj)
    have hm:c ∈ l.map (·.1):=(hinfo _ hob').2
    have h1:=unI_of hnd (renI_mem hm)
    have h2:=renI_mem hm
    have hjr:renI l c=j:=by
     have h3:=unI_mem hj
     -- both pairs have the same first part
     have key:∀ {l:List (Nat × Nat)},(l.map (·.1)).Nodup -> ∀ {c a b:Nat},(c,a) ∈ l->(c,b) ∈ l->a=b:=by
      intro l
      induction l with
      | nil=>intro _ c a b h; cases h
      | cons p r ih =>
       intro hn c a b ha hb
       rw [List.map_cons,List.nodup_cons] at hn
       cases ha with
       | head =>
        cases hb with
        | head=>rfl
        | tail _ hb=>exact absurd (List.mem_map_of_mem (f:=fun x:Nat × Nat=>x.1) hb) hn.1
       | tail _ ha =>
        cases hb with
        | head=>exact absurd (List.mem_map_of_mem (f:=fun x:Nat × Nat=>x.1) ha) hn.1
        | tail _ hb=>exact ih hn.2 ha hb
     exact key hnd1 h2 h3
    have hmem:(renI l c,renB l ob) ∈ hout.map (fun p=>(renI l p.1,renB l p.2)):=List.mem_map_of_mem (f:=fun p:Nat × OB=>(renI l p.1,renB l p.2)) hob'
    have:=hfresh _ hmem (fun q hq=>by cases hq)
    rw [hjr] at this
    exact this
   have lF:E.le F:=by
    refine ⟨fun b o h=>hle.M b o h,fun b k h => ?_,fun b u h => ?_,rfl⟩
    ·show (match unI l b with | some c=>E'.blk c | none=>E.blk b)=some k
     cases e:unI l b with
     | none=>exact h
     | some c=>rw [(hfr b c e).1] at h; cases h
    ·show (match unI l b with | some c=>E'.hdr c | none=>E.hdr b)=some u
     cases e:unI l b with
     | none=>exact h
     | some c=>rw [(hfr b c e).2] at h; cases h
   have hget:∀ i ob,Heap.of (hout.map (fun p=>(renI l p.1,renB l p.2))) i=some ob -> ∃ c ob0,unI l i=some c/\ob=renB l ob0/\Heap.of st2.hp c=some ob0/\okB (l.map (·.1)) ob0=true/\renI l c=i:=by
    intro i ob hi
    have hm:=Heap.of_mem hi
    obtain ⟨p,hp,he⟩:=List.mem_map.1 hm
    cases he
    exact ⟨p.1,p.2,unI_of hnd (renI_mem (hinfo p hp).2),rfl,hoIn_mem hho p hp,(hinfo p hp).1,rfl⟩
   have h':=hs'.ok.heap
   have av1:∀ x,C.avail x->(calleeCtx P E w []).avail x:=by
    rintro x (h | ⟨q,hq,_⟩)
    ·exact .inl h
    ·cases hq
   refine ⟨_,F,rfl,?_,renV_rel hren hres hrv',fun j hj => ?_⟩
   ·refine ⟨h'.os,h'.tape,h'.output,h'.size,fun x hx=>h'.pres x (fun h=>hx (av1 x h)),fun x o h=>h'.mem x o h,lF,fun x o h => ?_,fun i ob hi => ?_,fun i j y hij hi hj hiy hjy => ?_⟩
    ·rcases h'.ext x o h with h | h
     ·exact .inl h
     ·exact .inr (av1 x h)
    ·obtain ⟨c,ob0,hc,rfl,hst,hok',hri⟩:=hget i ob hi
     have hown:=h'.own c ob0 hst
     have hcb:F.blk i=E'.blk c:=by
      show (match unI l i with | some c=>E'.blk c | none=>E.blk i)=_
      rw [hc]
     have hch:F.hdr i=E'.hdr c:=by
      show (match unI l i with | some c=>E'.hdr c | none=>E.hdr i)=_
      rw [hc]
     cases ob0 with
     | vec t sz n f =>
      obtain ⟨hd,g,hh,ho,hgl,hgr,hbk,hav⟩:=hown
      exact ⟨hd,g,by rw [hch]; exact hh,ho,hgl,fun i hi=>RelL.trim (E:=E') (F:=F) (fun _ _ h=>h) hfns (hgr i hi),by rw [hcb]; exact hbk,fun k hk=>⟨av1 k (hav k hk).1,(hav k hk).2⟩⟩
     | vecx t sz n f j fj =>
      obtain ⟨hd,g,hh,ho,hgl,hgr,hgj,hbk,hav⟩:=hown
      simp only [okB,Bool.and_eq_true] at hok'
      exact ⟨hd,g,by rw [hch]; exact hh,ho,hgl,fun i hi hij=>RelL.trim (E:=E') (F:=F) (fun _ _ h=>h) hfns (hgr i hi hij),fun h=>renL_rel hren hok'.1 (hgj h),by rw [hcb]; exact hbk,fun k hk=>⟨av1 k (hav k hk).1,(hav k hk).2⟩⟩
     | _=>cases hok'
    ·have get:∀ i,Heap.of (hout.map (fun p=>(renI l p.1,renB l p.2))) i ≠ none->F.blk i=some y -> ∃ c,unI l i=some c/\Heap.of st2.hp c ≠ none/\E'.blk c=some y/\renI l c=i:=by
      intro i hi hiy
      cases e:Heap.of (hout.map (fun p=>(renI l p.1,renB l p.2))) i with
      | none=>exact absurd e hi
      | some ob =>
       obtain ⟨c,ob0,hc,rfl,hst,hok',hri⟩:=hget i ob e
       refine ⟨c,hc,by rw [hst]; simp,?_,hri⟩
       have:F.blk i=E'.blk c:=by
        show (match unI l i with | some c=>E'.blk c | none=>E.blk i)=_
        rw [hc]
       rw [← this]; exact hiy
     obtain ⟨c1,_,n1,k1,r1⟩:=get i hi hiy
     obtain ⟨c2,_,n2,k2,r2⟩:=get j hj hjy
     exact h'.sep c1 c2 y (fun e=>hij (by rw [← r1,← r2,e])) n1 n2 k1 k2
   ·have:unI l j=none:=by
     cases e:unI l j with
     | none=>rfl
     | some c =>
      obtain ⟨ob,hob'⟩:=hk _ (unI_mem e)
      have hm:c ∈ l.map (·.1):=(hinfo _ hob').2
      exfalso
      have hmem:(renI l c,renB l ob) ∈ hout.map (fun p=>(renI l p.1,renB l p.2)):=List.mem_map_of_mem (f:=fun p:Nat × OB=>(renI l p.1,renB l p.2)) hob'
      refine hj _ hmem ?_
      show renI l c=j
      have h2:=renI_mem hm
      have h3:=unI_mem e
      have key:∀ {l:List (Nat × Nat)},(l.map (·.1)).Nodup -> ∀ {c a b:Nat},(c,a) ∈ l->(c,b) ∈ l->a=b:=by
       intro l
       induction l with
       | nil=>intro _ c a b h; cases h
       | cons p r ih =>
        intro hn c a b ha hb
        rw [List.map_cons,List.nodup_cons] at hn
        cases ha with
        | head =>
         cases hb with
         | head=>rfl
         | tail _ hb=>exact absurd (List.mem_map_of_mem (f:=fun x:Nat × Nat=>x.1) hb) hn.1
        | tail _ ha =>
         cases hb with
         | head=>exact absurd (List.mem_map_of_mem (f:=fun x:Nat × Nat=>x.1) ha) hn.1
         | tail _ hb=>exact ih hn.2 ha hb
      exact key hnd1 h2 h3
    constructor
    ·show (match unI l j with | some c=>E'.blk c | none=>E.blk j)=_
     rw [this]
    ·show (match unI l j with | some c=>E'.hdr c | none=>E.hdr j)=_
     rw [this]
  ·exact hq.elim
 cases x with
 | normal=>exact fin hk1
 | ret=>exact fin hk1
 | exit id=>exact hk1.elim
section
variable {C:Ctx} {nt:Nat} {K:AX->ASt->Prop} {st:ASt}
theorem ret_o {T:Tab} {rs:List ResultVar} {res:AV} {hout:List (Nat × OB)} (st2:ASt) (he:Ent C nt st st2) (q:Prop) (hq:retO T rs st2 res hout=q) (h:q):RetO C nt T rs res hout .ret st:=⟨st2,he,by rw [hq]; exact h⟩
end
end Go.Ab
namespace Go.Ab
open Go Go.RowKit
section
variable {C:Ctx} {nt:Nat} {K:AX->ASt->Prop} {st:ASt}
def joinK (C:Ctx) (nt:Nat) (s':ASt) (K:AX->ASt->Prop):AX->ASt->Prop
 | .normal,st=>Ent C nt st s'
 | x,st=>K x st
theorem swp_join2 {x y:Code} (s':ASt) (hy:SWP C nt y K s') (hx:SWP C nt x (joinK C nt s' K) st):SWP C nt x (seqK C nt y K) st :=
 swp_mono hx fun a s h=>by
  cases a with
  | normal=>exact swp_ent h hy
  | ret=>exact h
  | exit i=>exact h
theorem join_end {s s':ASt} (h:Ent C nt s s'):joinK C nt s' K .normal s:=h
end
structure JoinH where
 tm:List (Nat × AV):=[]
 hp:List (Nat × OB):=[]
end Go.Ab
namespace Go.Sh
def markedB (h:Hs) (B:Nat->Int) (i:Nat):Bool:=decide (0<=B i) && decide ((h.marks.getD (B i).toNat default).th=i)
def markB (h:Hs) (c:Int) (i:Nat) (st:Int × Int) (n:Nat):Bool:=(decide ((h.marks.getD n default).th=i) && decide ((h.marks.getD n default).ch=c)) && (decide ((h.marks.getD n default).at_ < st.1) || (decide ((h.marks.getD n default).at_=st.1) && !(decide (0<=st.2) && decide ((h.marks.getD st.2.toNat default).th=i))))
def markStep (h:Hs) (c:Int) (i:Nat) (st:Int × Int) (n:Nat):Int × Int:=if markB h c i st n then ((h.marks.getD n default).at_,(n:Int)) else st
def baseB (h:Hs) (i:Nat) (tab:List (Int × Int)):Bool := !decide ((thg h i).off = -1) && decide ((tab.getD (thg h i).off.toNat (0,0)).1<=(thg h i).at_)
def base7 (h:Hs) (i:Nat) (tab:List (Int × Int)):Int × Int:=if baseB h i tab then ((thg h i).at_,(tab.getD (thg h i).off.toNat (0,0)).2) else (100,-1)
def markTo (h:Hs) (c:Int) (i:Nat) (tab:List (Int × Int)) (n:Nat):Int × Int:=(List.range n).foldl (markStep h c i) (base7 h i tab)
theorem markTo_succ (h:Hs) (c:Int) (i:Nat) (tab:List (Int × Int)) (n:Nat):markTo h c i tab (n + 1)=markStep h c i (markTo h c i tab n) n:=Go.Ab.foldl_range_succ _ _ _
def tab7 (h:Hs) (c:Int):Nat->List (Int × Int)
 | 0=>[]
 | n + 1=>tab7 h c n ++ [markTo h c n (tab7 h c n) h.marks.length]
def tS (h:Hs) (c:Int) (n j:Nat):Int:=((tab7 h c n).getD j (0,0)).1
def tB (h:Hs) (c:Int) (n j:Nat):Int:=((tab7 h c n).getD j (0,0)).2
def wS (f:Nat->Int) (i:Nat) (v:Int) (j:Nat):Int:=if j=i then v else f j
def mS (h:Hs) (c:Int) (i n:Nat):Int:=(markTo h c i (tab7 h c i) n).1
def mB (h:Hs) (c:Int) (i n:Nat):Int:=(markTo h c i (tab7 h c i) n).2
theorem tab7_len (h:Hs) (c:Int):∀ n,(tab7 h c n).length=n:=by
 intro n
 induction n with
 | zero=>rfl
 | succ n ih=>rw [tab7,List.length_append,ih]; rfl
end Go.Sh
namespace Go.En
open Go Go.Ab Go.Sh
def cHo (h:Hs) (c:Int) (S B:Nat->Int):List AV:=[.sl 4 h.things.length (fun i=>cThg (thg h i)),aMrks h.marks,iv c,.arr 1 8 (fun j=>[iv (S j)]),.arr 1 8 (fun j=>[iv (B j)])]
end Go.En
namespace Go.Ab
open Go Go.RowKit Go.Proofs Go.Sh Go.En
def s131 (b:Nat) (g:Hs) (c:Int) (S B:Nat->Int) (i:Nat):CallSpec:=ptrSpec b [] [iv i] 134 (cHo g c S B) (cHo g c S B) (i < 8/\B i < g.marks.length) (bv (markedB g B i))
def s104 (g:Hs) (c:Int):CallSpec:={ args:=[vHs g,iv c],res := .rp (cHo g c (tS g c g.things.length) (tB g c g.things.length)),pre:=okH g=true }
def h104a (g:Hs) (c:Int):Hint:={ X:=Nat,M:=fun i=>[(18,iv i),(5,.ptr 5000 [])],H:=fun i=>[(5000,.cells 134 (cHo g c (tS g c i) (tB g c i)))],I:=fun i=>i<=g.things.length,mu:=fun i=>g.things.length - i,x0:=(0:Nat),nx:=fun i=>i + 1 }
def h104b (g:Hs) (c:Int) (x:Nat):Hint:={ X:=Nat,M:=fun n=>[(70,iv n),(5,.ptr 5001 [])],H:=fun n=>[(5001,.cells 134 (cHo g c (wS (tS g c x) x (mS g c x n)) (wS (tB g c x) x (mB g c x n))))],I:=fun n=>n<=g.marks.length,mu:=fun n=>g.marks.length - n,x0:=(0:Nat),nx:=fun n=>n + 1 }
def c104 (g:Hs) (c:Int) (x n:Nat):CallSpec:=s131 5001 g c (wS (tS g c x) x (mS g c x n)) (wS (tB g c x) x (mB g c x n)) x
end Go.Ab
namespace Go.Ab
open Go Go.RowKit Go.Proofs Go.Sh Go.En
abbrev q131_1 (b:Nat) (g:Hs) (c:Int) (S:Nat->Int) (B:Nat->Int) (i:Nat) (C:Prop):Prop:=i < 8/\B i < (↑((Hs.marks g).length):Int)->C
theorem w131 (b:Nat) (g:Hs) (c:Int) (S:Nat->Int) (B:Nat->Int) (i:Nat)
 (o0:q131_1 b g c S B i (0<=(i:Int)))
 (o1:q131_1 b g c S B i ((i:Int) < (↑8:Int)))
 (o2:q131_1 b g c S B i (decide (0<=B i)=true->0<=B i))
 (o3:q131_1 b g c S B i ((bif decide (0<=B i) then decide (Mrk.th ((Hs.marks g).getD (B i).toNat default)=(i:Int)) else false)=markedB g B i)) :
  Triple Try.prog 131 (s131 b g c S B i):=by
 refine triple_ptr Try.func131 rfl Try.call131 T0_ok (b) ([]) ([iv (i:Int)]) (134) (cHo g c S B) (cHo g c S B) (i < 8/\B i < (↑((Hs.marks g).length):Int)) (bv (markedB g B i)) rfl rfl rfl rfl (Nat.le_of_ble_eq_true (by kernel_rfl)) ?_
 intro hp C hC hE
 obtain ⟨P,w0,E0,av,hA⟩:=C
 subst hC
 refine swp_seq ?_
 refine sQ (kt:=[0,1]) (kh:=[0]) (q:=True/\True) (st':=ASt.mk [(0,.ptr 0 []),(1,iv (i:Int))] [(0,.cells 134 (cHo g c S B))] 9) ⟨tv,tv⟩ ?_
 refine swp_seq ?_
 refine sQ (kt:=[0,1,5]) (kh:=[0]) (q:=True/\True/\True/\True/\(0<=(i:Int)/\(i:Int) < (↑8:Int))/\(i < 8/\True)/\True/\True) (st':=ASt.mk [(0,.ptr 0 []),(1,iv (i:Int)),(5,iv (B i))] [(0,.cells 134 (cHo g c S B))] 65) ⟨tv,tv,tv,tv,⟨(o0 hp),(o1 hp)⟩,⟨hp.1,tv⟩,tv,tv⟩ ?_
 refine swp_seq ?_
 refine sQ (kt:=[4]) (kh:=[0]) (q:=True/\True/\True/\(decide (0<=B i)=true->(True/\True)/\True)/\(decide (0<=B i)=true->((decide (0<=B i)=true->decide (0<=B i)=true)/\True)/\True)/\(decide (0<=B i)=true->((decide (0<=B i)=true->decide (0<=B i)=true)/\True)/\True)/\(decide (0<=B i)=true->((decide (0<=B i)=true->decide (0<=B i)=true)/\True)/\True)/\(decide (0<=B i)=true->((decide (0<=B i)=true->decide (0<=B i)=true)/\True)/\True)/\(decide (0<=B i)=true->(True/\True)/\True)/\(decide (0<=B i)=true->((decide (0<=B i)=true->decide (0<=B i)=true)/\(decide (0<=B i)=true->decide (0<=B i)=true)/\True)/\0<=B i/\B i < (↑((Hs.marks g).length):Int))/\(decide (0<=B i)=true->((decide (0<=B i)=true->decide (0<=B i)=true)/\True)/\True)/\(decide (0<=B i)=true->((decide (0<=B i)=true->decide (0<=B i)=true)/\True)/\True)/\(decide (0<=B i)=true->(True/\True)/\True)/\(decide (0<=B i)=true->((decide (0<=B i)=true->decide (0<=B i)=true)/\(decide (0<=B i)=true->decide (0<=B i)=true)/\True)/\True)/\((decide (0<=B i)=true->decide (0<=B i)=true)/\(decide (0<=B i)=false->True))/\True/\True) (st':=ASt.mk [(4,bv (bif decide (0<=B i) then decide (Mrk.th ((Hs.marks g).getD (B i).toNat default)=(i:Int)) else false))] [(0,.cells 134 (cHo g c S B))] 193) ⟨tv,tv,tv,(fun h0=>⟨⟨tv,tv⟩,tv⟩),(fun h1=>⟨⟨(fun h2=>h1),tv⟩,tv⟩),(fun h3=>⟨⟨(fun h4=>h3),tv⟩,tv⟩),(fun h5=>⟨⟨(fun h6=>h5),tv⟩,tv⟩),(fun h7=>⟨⟨(fun h8=>h7),tv⟩,tv⟩),(fun h9=>⟨⟨tv,tv⟩,tv⟩),(fun h10=>⟨⟨(fun h11=>h10),(fun h12=>h10),tv⟩,(o2 hp h10),hp.2⟩),(fun h13=>⟨⟨(fun h14=>h13),tv⟩,tv⟩),(fun h15=>⟨⟨(fun h16=>h15),tv⟩,tv⟩),(fun h17=>⟨⟨tv,tv⟩,tv⟩),(fun h18=>⟨⟨(fun h19=>h18),(fun h20=>h18),tv⟩,tv⟩),⟨(fun h21=>h21),(fun h22=>tv)⟩,tv,tv⟩ ?_
 refine swp_ret ?_
 exact ret_p (cHo g c S B) ((True/\True)/\(zN (bv (bif decide (0<=B i) then decide (Mrk.th ((Hs.marks g).getD (B i).toNat default)=(i:Int)) else false)) (bv (markedB g B i)))/\T3) (by kernel_rfl) (by kernel_rfl) ⟨⟨tv,tv⟩,⟨(congrArg bv (o3 hp)),rfl⟩,rfl,rfl,rfl⟩ rfl
theorem t131 (b:Nat) (g:Hs) (c:Int) (S B:Nat->Int) (i:Nat):Triple Try.prog 131 (s131 b g c S B i):=by
 apply w131
 all_goals (first | ((repeat intro _) <;> (try simp only [v0,v1,v2,v3,v4,v5,v6,v7,v8,v9,inI,fits,Go.Sh.small] at *) <;> first | (exact rfl) | omega | exact vz | (simp_all; done) | (simp_all; omega)) | skip)
abbrev z104_1 (g:Hs) (c:Int) (x0:Nat):LoopAnn:=Hint.ann (h104b g c x0) [(1,iv c),(2,AV.ptr 0 []),(16,AV.sl 4 (Hs.things g).length fun (i:Nat)=>cThg (thg g i)),(17,iv (↑((Hs.things g).length):Int)),(18,iv (x0:Int)),(6,iv (x0:Int)),(68,aMrks (Hs.marks g)),(69,iv (↑((Hs.marks g).length):Int))] [(0,OB.cells 80 (cHs g))] 30392
abbrev z104_2 (g:Hs) (c:Int):LoopAnn:=Hint.ann (h104a g c) [(1,iv c),(2,AV.ptr 0 []),(16,AV.sl 4 (Hs.things g).length fun (i:Nat)=>cThg (thg g i)),(17,iv (↑((Hs.things g).length):Int))] [(0,OB.cells 80 (cHs g))] 10088
abbrev q104_1 (g:Hs) (c:Int) (C:Nat->Prop):Prop:=okH g=true -> ∀ (x0:Nat),x0<=(Hs.things g).length->decide ((x0:Int) < (↑((Hs.things g).length):Int))=true->C x0
abbrev q104_2 (g:Hs) (c:Int) (C:Nat->Prop):Prop:=q104_1 g c fun x0=>(bif !decide (Thg.off (thg g x0) = -1) then decide (wS (tS g c x0) x0 100 (Thg.off (thg g x0)).toNat<=Thg.at_ (thg g x0)) else false)=true->C x0
abbrev q104_3 (g:Hs) (c:Int) (C:Nat->Prop):Prop:=q104_1 g c fun x0=>(bif !decide (Thg.off (thg g x0) = -1) then decide (wS (tS g c x0) x0 100 (Thg.off (thg g x0)).toNat<=Thg.at_ (thg g x0)) else false)=false->C x0
abbrev q104_4 (g:Hs) (c:Int) (C:Nat->Nat->Prop):Prop:=q104_1 g c fun x0 => ∀ (x56:Nat),x56<=(Hs.marks g).length->decide ((x56:Int) < (↑((Hs.marks g).length):Int))=true->C x0 x56
abbrev q104_5 (g:Hs) (c:Int) (C:Nat->Nat->Prop):Prop:=q104_4 g c fun x0 x56=>(bif decide (Mrk.th ((Hs.marks g).getD x56 default)=(x0:Int)) then decide (Mrk.ch ((Hs.marks g).getD x56 default)=c) else false)=true->C x0 x56
abbrev q104_6 (g:Hs) (c:Int) (C:Nat->Nat->Prop):Prop:=q104_4 g c fun x0 x56=>((bif decide (Mrk.th ((Hs.marks g).getD x56 default)=(x0:Int)) then decide (Mrk.ch ((Hs.marks g).getD x56 default)=c) else false) && !decide (Mrk.at_ ((Hs.marks g).getD x56 default) < wS (tS g c x0) x0 (mS g c x0 x56) x0))=true->C x0 x56
abbrev q104_7 (g:Hs) (c:Int) (C:Nat->Nat->Prop):Prop:=q104_4 g c fun x0 x56=>((bif decide (Mrk.th ((Hs.marks g).getD x56 default)=(x0:Int)) then decide (Mrk.ch ((Hs.marks g).getD x56 default)=c) else false) && !decide (Mrk.at_ ((Hs.marks g).getD x56 default) < wS (tS g c x0) x0 (mS g c x0 x56) x0) && decide (Mrk.at_ ((Hs.marks g).getD x56 default)=wS (tS g c x0) x0 (mS g c x0 x56) x0))=true->C x0 x56
abbrev q104_8 (g:Hs) (c:Int) (C:Nat->Nat->Prop):Prop:=q104_4 g c fun x0 x56=>(bif bif decide (Mrk.th ((Hs.marks g).getD x56 default)=(x0:Int)) then decide (Mrk.ch ((Hs.marks g).getD x56 default)=c) else false then bif decide (Mrk.at_ ((Hs.marks g).getD x56 default) < wS (tS g c x0) x0 (mS g c x0 x56) x0) then true else bif decide (Mrk.at_ ((Hs.marks g).getD x56 default)=wS (tS g c x0) x0 (mS g c x0 x56) x0) then !markedB g (wS (tB g c x0) x0 (mB g c x0 x56)) x0 else false else false)=true->C x0 x56
abbrev q104_9 (g:Hs) (c:Int) (C:Nat->Nat->Prop):Prop:=q104_4 g c fun x0 x56=>(bif bif decide (Mrk.th ((Hs.marks g).getD x56 default)=(x0:Int)) then decide (Mrk.ch ((Hs.marks g).getD x56 default)=c) else false then bif decide (Mrk.at_ ((Hs.marks g).getD x56 default) < wS (tS g c x0) x0 (mS g c x0 x56) x0) then true else bif decide (Mrk.at_ ((Hs.marks g).getD x56 default)=wS (tS g c x0) x0 (mS g c x0 x56) x0) then !markedB g (wS (tB g c x0) x0 (mB g c x0 x56)) x0 else false else false)=false->C x0 x56
abbrev q104_10 (g:Hs) (c:Int) (C:Nat->Nat->Prop):Prop:=q104_1 g c fun x0 => ∀ (x56:Nat),x56<=(Hs.marks g).length->decide ((x56:Int) < (↑((Hs.marks g).length):Int))=false->C x0 x56
theorem w104 (g:Hs) (c:Int)
 (o0:okH g=true->0=(↑0:Int))
 (o1:okH g=true -> ∀ (i5:Nat),i5 < 8 -> [iv 0] = [iv (tS g c 0 i5)])
 (o2:okH g=true -> ∀ (i7:Nat),i7 < 8 -> [iv 0] = [iv (tB g c 0 i7)])
 (o3:okH g=true->0<=List.length (Hs.things g))
 (o4:q104_1 g c fun x0=>0<=(x0:Int))
 (o5:q104_1 g c fun x0=>(x0:Int) < (↑((Hs.things g).length):Int))
 (o6:q104_1 g c fun x0=>0<=(x0:Int))
 (o7:q104_1 g c fun x0=>(x0:Int) < (↑8:Int))
 (o8:q104_1 g c fun x0=>x0 < 8)
 (o9:q104_1 g c fun x0=>0<=(x0:Int))
 (o10:q104_1 g c fun x0=>(x0:Int) < (↑8:Int))
 (o11:q104_1 g c fun x0=>x0 < 8)
 (o12:q104_1 g c fun x0 => ∀ (i14:Nat),i14 < 8->Decidable.rec (fun (h:¬i14=x0)=>[iv (tS g c x0 i14)]) (fun (h:i14=x0)=>[iv 100] ++ []) (instDecidableEqNat i14 x0) = [iv (wS (tS g c x0) x0 100 i14)])
 (o13:q104_1 g c fun x0 => ∀ (i16:Nat),i16 < 8->Decidable.rec (fun (h:¬i16=x0)=>[iv (tB g c x0 i16)]) (fun (h:i16=x0)=>[iv (-1)] ++ []) (instDecidableEqNat i16 x0) = [iv (wS (tB g c x0) x0 (-1) i16)])
 (o14:q104_1 g c fun x0=>(!decide (Thg.off (thg g x0) = -1))->0<=Thg.off (thg g x0))
 (o15:q104_1 g c fun x0=>(!decide (Thg.off (thg g x0) = -1))->Thg.off (thg g x0) < (↑8:Int))
 (o16:q104_1 g c fun x0=>(!decide (Thg.off (thg g x0) = -1))->(Thg.off (thg g x0)).toNat < 8)
 (o17:q104_2 g c fun x0=>0<=Thg.off (thg g x0))
 (o18:q104_2 g c fun x0=>Thg.off (thg g x0) < (↑8:Int))
 (o19:q104_2 g c fun x0=>(Thg.off (thg g x0)).toNat < 8)
 (o20:q104_2 g c fun x0=>0<=(x0:Int))
 (o21:q104_2 g c fun x0=>(x0:Int) < (↑8:Int))
 (o22:q104_2 g c fun x0=>x0 < 8)
 (o23:q104_2 g c fun x0=>0<=(x0:Int))
 (o24:q104_2 g c fun x0=>(x0:Int) < (↑8:Int))
 (o25:q104_2 g c fun x0=>x0 < 8)
 (o26:q104_2 g c fun x0 => ∀ (i44:Nat),i44 < 8->Decidable.rec (fun (h:¬i44=x0)=>[iv (wS (tS g c x0) x0 100 i44)]) (fun (h:i44=x0)=>[iv (Thg.at_ (thg g x0))] ++ []) (instDecidableEqNat i44 x0) = [iv (wS (tS g c x0) x0 (mS g c x0 0) i44)])
 (o27:q104_2 g c fun x0 => ∀ (i46:Nat),i46 < 8->Decidable.rec (fun (h:¬i46=x0)=>[iv (wS (tB g c x0) x0 (-1) i46)]) (fun (h:i46=x0)=>[iv (wS (tB g c x0) x0 (-1) (Thg.off (thg g x0)).toNat)] ++ []) (instDecidableEqNat i46 x0) = [iv (wS (tB g c x0) x0 (mB g c x0 0) i46)])
 (o28:q104_3 g c fun x0 => ∀ (i52:Nat),i52 < 8 -> [iv (wS (tS g c x0) x0 100 i52)] = [iv (wS (tS g c x0) x0 (mS g c x0 0) i52)])
 (o29:q104_3 g c fun x0 => ∀ (i54:Nat),i54 < 8 -> [iv (wS (tB g c x0) x0 (-1) i54)] = [iv (wS (tB g c x0) x0 (mB g c x0 0) i54)])
 (o30:q104_1 g c fun x0=>0=(↑0:Int))
 (o31:q104_1 g c fun x0=>0<=(Hs.marks g).length)
 (o32:q104_4 g c fun x0 x56=>0<=(x56:Int))
 (o33:q104_4 g c fun x0 x56=>(x56:Int) < (↑((Hs.marks g).length):Int))
 (o34:q104_5 g c fun x0 x56=>0<=(x0:Int))
 (o35:q104_5 g c fun x0 x56=>(x0:Int) < (↑8:Int))
 (o36:q104_5 g c fun x0 x56=>x0 < 8)
 (o37:q104_6 g c fun x0 x56=>0<=(x0:Int))
 (o38:q104_6 g c fun x0 x56=>(x0:Int) < (↑8:Int))
 (o39:q104_6 g c fun x0 x56=>x0 < 8)
 (o40:q104_7 g c fun x0 x56=>x0 < 8)
 (o41:q104_7 g c fun x0 x56=>wS (tB g c x0) x0 (mB g c x0 x56) x0 < (↑((Hs.marks g).length):Int))
 (o42:q104_6 g c fun x0 x56=>decide (Mrk.at_ ((Hs.marks g).getD x56 default)=wS (tS g c x0) x0 (mS g c x0 x56) x0)=true->((bif decide (Mrk.th ((Hs.marks g).getD x56 default)=(x0:Int)) then decide (Mrk.ch ((Hs.marks g).getD x56 default)=c) else false) && !decide (Mrk.at_ ((Hs.marks g).getD x56 default) < wS (tS g c x0) x0 (mS g c x0 x56) x0) && decide (Mrk.at_ ((Hs.marks g).getD x56 default)=wS (tS g c x0) x0 (mS g c x0 x56) x0))=true)
 (o43:q104_5 g c fun x0 x56=>decide (Mrk.at_ ((Hs.marks g).getD x56 default) < wS (tS g c x0) x0 (mS g c x0 x56) x0)=false->((bif decide (Mrk.th ((Hs.marks g).getD x56 default)=(x0:Int)) then decide (Mrk.ch ((Hs.marks g).getD x56 default)=c) else false) && !decide (Mrk.at_ ((Hs.marks g).getD x56 default) < wS (tS g c x0) x0 (mS g c x0 x56) x0))=true)
 (o44:q104_8 g c fun x0 x56=>0<=(x0:Int))
 (o45:q104_8 g c fun x0 x56=>(x0:Int) < (↑8:Int))
 (o46:q104_8 g c fun x0 x56=>x0 < 8)
 (o47:q104_8 g c fun x0 x56=>0<=(x0:Int))
 (o48:q104_8 g c fun x0 x56=>(x0:Int) < (↑8:Int))
 (o49:q104_8 g c fun x0 x56=>x0 < 8)
 (o50:q104_8 g c fun x0 x56=>inI ((x56:Int) + 1))
 (o51:q104_8 g c fun x0 x56=>(x56:Int) + 1=(↑(x56 + 1):Int))
 (o52:q104_8 g c fun x0 x56 => ∀ (i136:Nat),i136 < 8->Decidable.rec (fun (h:¬i136=x0)=>[iv (wS (tS g c x0) x0 (mS g c x0 x56) i136)]) (fun (h:i136=x0)=>[iv (Mrk.at_ ((Hs.marks g).getD x56 default))] ++ []) (instDecidableEqNat i136 x0) = [iv (wS (tS g c x0) x0 (mS g c x0 (x56 + 1)) i136)])
 (o53:q104_8 g c fun x0 x56 => ∀ (i138:Nat),i138 < 8->Decidable.rec (fun (h:¬i138=x0)=>[iv (wS (tB g c x0) x0 (mB g c x0 x56) i138)]) (fun (h:i138=x0)=>[iv (x56:Int)] ++ []) (instDecidableEqNat i138 x0) = [iv (wS (tB g c x0) x0 (mB g c x0 (x56 + 1)) i138)])
 (o54:q104_8 g c fun x0 x56=>x56 + 1<=(Hs.marks g).length)
 (o55:q104_8 g c fun x0 x56=>(Hs.marks g).length - (x56 + 1) < (Hs.marks g).length - x56)
 (o56:q104_9 g c fun x0 x56=>inI ((x56:Int) + 1))
 (o57:q104_9 g c fun x0 x56=>(x56:Int) + 1=(↑(x56 + 1):Int))
 (o58:q104_9 g c fun x0 x56 => ∀ (i144:Nat),i144 < 8 -> [iv (wS (tS g c x0) x0 (mS g c x0 x56) i144)] = [iv (wS (tS g c x0) x0 (mS g c x0 (x56 + 1)) i144)])
 (o59:q104_9 g c fun x0 x56 => ∀ (i146:Nat),i146 < 8 -> [iv (wS (tB g c x0) x0 (mB g c x0 x56) i146)] = [iv (wS (tB g c x0) x0 (mB g c x0 (x56 + 1)) i146)])
 (o60:q104_9 g c fun x0 x56=>x56 + 1<=(Hs.marks g).length)
 (o61:q104_9 g c fun x0 x56=>(Hs.marks g).length - (x56 + 1) < (Hs.marks g).length - x56)
 (o62:q104_10 g c fun x0 x56=>inI ((x0:Int) + 1))
 (o63:q104_10 g c fun x0 x56=>(x0:Int) + 1=(↑(x0 + 1):Int))
 (o64:q104_10 g c fun x0 x56 => ∀ (i152:Nat),i152 < 8 -> [iv (wS (tS g c x0) x0 (mS g c x0 x56) i152)] = [iv (tS g c (x0 + 1) i152)])
 (o65:q104_10 g c fun x0 x56 => ∀ (i154:Nat),i154 < 8 -> [iv (wS (tB g c x0) x0 (mB g c x0 x56) i154)] = [iv (tB g c (x0 + 1) i154)])
 (o66:q104_10 g c fun x0 x56=>x0 + 1<=(Hs.things g).length)
 (o67:q104_10 g c fun x0 x56=>(Hs.things g).length - (x0 + 1) < (Hs.things g).length - x0)
 (o68:okH g=true -> ∀ (x0:Nat),x0<=(Hs.things g).length->decide ((x0:Int) < (↑((Hs.things g).length):Int))=false->AV.rp (cHo g c (tS g c x0) (tB g c x0))=AV.rp (cHo g c (tS g c (Hs.things g).length) (tB g c (Hs.things g).length))) :
  Triple Try.prog 104 (s104 g c):=by
 refine triple_of Try.func104 rfl Try.call104 T0_ok _ rfl rfl rfl rfl (Nat.le_of_ble_eq_true (by kernel_rfl)) (fun _ _ _ _ h=>h) ?_
 intro hp C hC _ hE
 obtain ⟨P,w0,E0,av,hA⟩:=C
 subst hC
 refine swp_seq ?_
 refine sQ (kt:=[1,2]) (kh:=[0]) (q:=tn 2) (st':=ASt.mk [(1,iv c),(2,.ptr 0 [])] [(0,.cells 80 (cHs g))] 16) (tp 2) ?_
 refine swp_seq ?_
 refine sQ (kt:=[1,2,5]) (kh:=[0,40]) (q:=tn 5) (st':=ASt.mk [(1,iv c),(2,.ptr 0 []),(5,.ptr 40 [])] [(0,.cells 80 (cHs g)),(40,.cells 134 (cHo g c (fun (j:Nat)=>0) fun (j:Nat)=>0))] 56) (tp 5) ?_
 refine swp_seq (swp_seq ?_)
 refine sQ (kt:=[1,2,5,16,17,18]) (kh:=[0,40]) (q:=tn 4) (st':=ASt.mk [(1,iv c),(2,.ptr 0 []),(5,.ptr 40 []),(16,.sl 4 (Hs.things g).length fun (i:Nat)=>cThg (thg g i)),(17,iv (↑((Hs.things g).length):Int)),(18,iv 0)] [(0,.cells 80 (cHs g)),(40,.cells 134 (cHo g c (fun (j:Nat)=>0) fun (j:Nat)=>0))] 88) (tp 4) ?_
 refine swp_block ?_
 refine swp_loopA (z104_2 g c) (eQ hE [] [(0,.same 0),(5000,.same 40)] [1,16,17] [0] (((zT (iv c))/\(zP 0)/\(zT (AV.sl 4 (Hs.things g).length fun (i:Nat)=>cThg (thg g i)))/\(zT (iv (↑((Hs.things g).length):Int)))/\(zN (iv 0) (iv (↑0:Int)))/\(zP 40)/\True)/\((zT (OB.cells 80 (cHs g)))/\(134=134/\((4=4/\(Hs.things g).length=(Hs.things g).length /\ ∀ (i1:Nat),i1 < (Hs.things g).length->cThg (thg g i1)=cThg (thg g i1))/\(3=3/\(Hs.marks g).length=(Hs.marks g).length /\ ∀ (i3:Nat),i3 < (Hs.marks g).length->cMrk ((Hs.marks g).getD i3 default)=cMrk ((Hs.marks g).getD i3 default))/\(zM (iv c))/\(1=1/\8=8 /\ ∀ (i5:Nat),i5 < 8 -> [iv 0] = [iv (tS g c 0 i5)])/\(1=1/\8=8 /\ ∀ (i7:Nat),i7 < 8 -> [iv 0] = [iv (tB g c 0 i7)])/\True)/\true=true)/\True)/\T2) ⟨⟨⟨rfl,rfl⟩,⟨rfl,rfl⟩,⟨rfl,rfl⟩,⟨rfl,rfl⟩,⟨(congrArg iv (o0 hp)),rfl⟩,⟨rfl,rfl⟩,tv⟩,⟨⟨rfl,rfl⟩,⟨rfl,⟨⟨rfl,rfl,(fun i1=>(fun h2=>rfl))⟩,⟨rfl,rfl,(fun i3=>(fun h4=>rfl))⟩,⟨rfl,rfl⟩,⟨rfl,rfl,(fun i5=>(fun h6=>(o1 hp i5 h6)))⟩,⟨rfl,rfl,(fun i7=>(fun h8=>(o2 hp i7 h8)))⟩,tv⟩,rfl⟩,tv⟩,rfl,rfl⟩) (o3 hp) (fun (x0:Nat) hx0 => ?_)
 refine swp_seq ?_
 refine sQ (kt:=[1,2,16,17,18,5,19]) (kh:=[0,5000]) (q:=True/\True) (st':=ASt.mk [(1,iv c),(2,.ptr 0 []),(16,.sl 4 (Hs.things g).length fun (i:Nat)=>cThg (thg g i)),(17,iv (↑((Hs.things g).length):Int)),(18,iv (x0:Int)),(5,.ptr 5000 []),(19,bv (decide ((x0:Int) < (↑((Hs.things g).length):Int))))] [(0,.cells 80 (cHs g)),(5000,.cells 134 (cHo g c (tS g c x0) (tB g c x0)))] 10096) ⟨tv,tv⟩ ?_
 refine swp_seq ?_
 refine swp_cond (decide ((x0:Int) < (↑((Hs.things g).length):Int))) (by kernel_rfl) (fun h9 => ?_) (fun h9 => ?_)
 ·refine swp_skip (swp_seq (swp_block (swp_seq ?_)))
  refine sQ (kt:=[1,2,16,17,18,5,7,6]) (kh:=[0,5000,10120]) (q:=True/\(0<=(x0:Int)/\(x0:Int) < (↑((Hs.things g).length):Int))/\tn 4) (st':=ASt.mk [(1,iv c),(2,.ptr 0 []),(16,.sl 4 (Hs.things g).length fun (i:Nat)=>cThg (thg g i)),(17,iv (↑((Hs.things g).length):Int)),(18,iv (x0:Int)),(5,.ptr 5000 []),(7,.ptr 10120 []),(6,iv (x0:Int))] [(0,.cells 80 (cHs g)),(5000,.cells 134 (cHo g c (tS g c x0) (tB g c x0))),(10120,.cells 88 (cThg (thg g x0)))] 10144) ⟨tv,⟨(o4 hp x0 hx0 h9),(o5 hp x0 hx0 h9)⟩,tp 4⟩ ?_
  refine swp_seq ?_
  refine sQ (kt:=[1,2,16,17,18,5,7,6]) (kh:=[0,5000,10120]) (q:=True/\True/\True/\True/\True/\True/\(0<=(x0:Int)/\(x0:Int) < (↑8:Int))/\(x0 < 8/\True)/\True/\True/\(0<=(x0:Int)/\(x0:Int) < (↑8:Int))/\(x0 < 8/\True)/\True) (st':=ASt.mk [(1,iv c),(2,.ptr 0 []),(16,.sl 4 (Hs.things g).length fun (i:Nat)=>cThg (thg g i)),(17,iv (↑((Hs.things g).length):Int)),(18,iv (x0:Int)),(5,.ptr 5000 []),(7,.ptr 10120 []),(6,iv (x0:Int))] [(0,.cells 80 (cHs g)),(5000,.cells 134 [.sl 4 (Hs.things g).length fun (i:Nat)=>cThg (thg g i),aMrks (Hs.marks g),iv c,.arr 1 8 fun (j:Nat)=>Decidable.rec (fun (h:¬j=x0)=>[iv (tS g c x0 j)]) (fun (h:j=x0)=>[iv 100] ++ []) (instDecidableEqNat j x0),.arr 1 8 fun (j:Nat)=>Decidable.rec (fun (h:¬j=x0)=>[iv (tB g c x0 j)]) (fun (h:j=x0)=>[iv (-1)] ++ []) (instDecidableEqNat j x0)]),(10120,.cells 88 (cThg (thg g x0)))] 10240) ⟨tv,tv,tv,tv,tv,tv,⟨(o6 hp x0 hx0 h9),(o7 hp x0 hx0 h9)⟩,⟨(o8 hp x0 hx0 h9),tv⟩,tv,tv,⟨(o9 hp x0 hx0 h9),(o10 hp x0 hx0 h9)⟩,⟨(o11 hp x0 hx0 h9),tv⟩,tv⟩ ?_
  refine swp_seq (swp_seq ?_)
  refine swp_ent (eQ (st2:=ASt.mk [(1,iv c),(2,AV.ptr 0 []),(16,AV.sl 4 (Hs.things g).length fun (i:Nat)=>cThg (thg g i)),(17,iv (↑((Hs.things g).length):Int)),(18,iv (x0:Int)),(5,AV.ptr 5000 []),(7,AV.ptr 10120 []),(6,iv (x0:Int))] [(5000,OB.cells 134 (cHo g c (wS (tS g c x0) x0 100) (wS (tB g c x0) x0 (-1)))),(0,OB.cells 80 (cHs g)),(10120,OB.cells 88 (cThg (thg g x0)))] 10240) hE [] [(0,.same 0),(5000,.same 5000),(10120,.same 10120)] [1,16,17,18,6] [0,10120] (((zT (iv c))/\(zP 0)/\(zT (AV.sl 4 (Hs.things g).length fun (i:Nat)=>cThg (thg g i)))/\(zT (iv (↑((Hs.things g).length):Int)))/\(zT (iv (x0:Int)))/\(zP 5000)/\(zP 10120)/\(zT (iv (x0:Int)))/\True)/\((134=134/\((4=4/\(Hs.things g).length=(Hs.things g).length /\ ∀ (i10:Nat),i10 < (Hs.things g).length->cThg (thg g i10)=cThg (thg g i10))/\(3=3/\(Hs.marks g).length=(Hs.marks g).length /\ ∀ (i12:Nat),i12 < (Hs.marks g).length->cMrk ((Hs.marks g).getD i12 default)=cMrk ((Hs.marks g).getD i12 default))/\(zM (iv c))/\(1=1/\8=8 /\ ∀ (i14:Nat),i14 < 8->Decidable.rec (fun (h:¬i14=x0)=>[iv (tS g c x0 i14)]) (fun (h:i14=x0)=>[iv 100] ++ []) (instDecidableEqNat i14 x0) = [iv (wS (tS g c x0) x0 100 i14)])/\(1=1/\8=8 /\ ∀ (i16:Nat),i16 < 8->Decidable.rec (fun (h:¬i16=x0)=>[iv (tB g c x0 i16)]) (fun (h:i16=x0)=>[iv (-1)] ++ []) (instDecidableEqNat i16 x0) = [iv (wS (tB g c x0) x0 (-1) i16)])/\True)/\true=true)/\(zT (OB.cells 80 (cHs g)))/\(zT (OB.cells 88 (cThg (thg g x0))))/\True)/\T2) ⟨⟨⟨rfl,rfl⟩,⟨rfl,rfl⟩,⟨rfl,rfl⟩,⟨rfl,rfl⟩,⟨rfl,rfl⟩,⟨rfl,rfl⟩,⟨rfl,rfl⟩,⟨rfl,rfl⟩,tv⟩,⟨⟨rfl,⟨⟨rfl,rfl,(fun i10=>(fun h11=>rfl))⟩,⟨rfl,rfl,(fun i12=>(fun h13=>rfl))⟩,⟨rfl,rfl⟩,⟨rfl,rfl,(fun i14=>(fun h15=>(o12 hp x0 hx0 h9 i14 h15)))⟩,⟨rfl,rfl,(fun i16=>(fun h17=>(o13 hp x0 hx0 h9 i16 h17)))⟩,tv⟩,rfl⟩,⟨rfl,rfl⟩,⟨rfl,rfl⟩,tv⟩,rfl,rfl⟩) ?_
  refine sQ (kt:=[1,2,16,17,18,5,7,6,47]) (kh:=[0,5000,10120]) (q:=True/\True/\True/\True/\((!decide (Thg.off (thg g x0) = -1))->(True/\True)/\True)/\((!decide (Thg.off (thg g x0) = -1))->(True/\True)/\True)/\((!decide (Thg.off (thg g x0) = -1))->(((!decide (Thg.off (thg g x0) = -1))->(!decide (Thg.off (thg g x0) = -1))=true)/\True)/\True)/\((!decide (Thg.off (thg g x0) = -1))->(((!decide (Thg.off (thg g x0) = -1))->(!decide (Thg.off (thg g x0) = -1))=true)/\True)/\True)/\((!decide (Thg.off (thg g x0) = -1))->(((!decide (Thg.off (thg g x0) = -1))->(!decide (Thg.off (thg g x0) = -1))=true)/\True)/\True)/\((!decide (Thg.off (thg g x0) = -1))->(((!decide (Thg.off (thg g x0) = -1))->(!decide (Thg.off (thg g x0) = -1))=true)/\((!decide (Thg.off (thg g x0) = -1))->(!decide (Thg.off (thg g x0) = -1))=true)/\True)/\0<=Thg.off (thg g x0)/\Thg.off (thg g x0) < (↑8:Int))/\((!decide (Thg.off (thg g x0) = -1))->(((!decide (Thg.off (thg g x0) = -1))->(!decide (Thg.off (thg g x0) = -1))=true)/\True)/\(Thg.off (thg g x0)).toNat < 8/\True)/\((!decide (Thg.off (thg g x0) = -1))->(True/\True)/\True)/\((!decide (Thg.off (thg g x0) = -1))->(((!decide (Thg.off (thg g x0) = -1))->(!decide (Thg.off (thg g x0) = -1))=true)/\True)/\True)/\((!decide (Thg.off (thg g x0) = -1))->(((!decide (Thg.off (thg g x0) = -1))->(!decide (Thg.off (thg g x0) = -1))=true)/\((!decide (Thg.off (thg g x0) = -1))->(!decide (Thg.off (thg g x0) = -1))=true)/\True)/\True)/\(((!decide (Thg.off (thg g x0) = -1))->(!decide (Thg.off (thg g x0) = -1))=true)/\((!decide (Thg.off (thg g x0) = -1))=false->True))/\True) (st':=ASt.mk [(1,iv c),(2,.ptr 0 []),(16,.sl 4 (Hs.things g).length fun (i:Nat)=>cThg (thg g i)),(17,iv (↑((Hs.things g).length):Int)),(18,iv (x0:Int)),(5,.ptr 5000 []),(7,.ptr 10120 []),(6,iv (x0:Int)),(47,bv (bif !decide (Thg.off (thg g x0) = -1) then decide (wS (tS g c x0) x0 100 (Thg.off (thg g x0)).toNat<=Thg.at_ (thg g x0)) else false))] [(0,.cells 80 (cHs g)),(5000,.cells 134 (cHo g c (wS (tS g c x0) x0 100) (wS (tB g c x0) x0 (-1)))),(10120,.cells 88 (cThg (thg g x0)))] 10360) ⟨tv,tv,tv,tv,(fun h18=>⟨⟨tv,tv⟩,tv⟩),(fun h19=>⟨⟨tv,tv⟩,tv⟩),(fun h20=>⟨⟨(fun h21=>h20),tv⟩,tv⟩),(fun h22=>⟨⟨(fun h23=>h22),tv⟩,tv⟩),(fun h24=>⟨⟨(fun h25=>h24),tv⟩,tv⟩),(fun h26=>⟨⟨(fun h27=>h26),(fun h28=>h26),tv⟩,(o14 hp x0 hx0 h9 h26),(o15 hp x0 hx0 h9 h26)⟩),(fun h29=>⟨⟨(fun h30=>h29),tv⟩,(o16 hp x0 hx0 h9 h29),tv⟩),(fun h31=>⟨⟨tv,tv⟩,tv⟩),(fun h32=>⟨⟨(fun h33=>h32),tv⟩,tv⟩),(fun h34=>⟨⟨(fun h35=>h34),(fun h36=>h34),tv⟩,tv⟩),⟨(fun h37=>h37),(fun h38=>tv)⟩,tv⟩ ?_
  refine swp_join2 (ASt.mk [(1,iv c),(2,AV.ptr 0 []),(16,AV.sl 4 (Hs.things g).length fun (i:Nat)=>cThg (thg g i)),(17,iv (↑((Hs.things g).length):Int)),(18,iv (x0:Int)),(5,AV.ptr 5000 []),(6,iv (x0:Int))] [(5000,OB.cells 134 (cHo g c (wS (tS g c x0) x0 (mS g c x0 0)) (wS (tB g c x0) x0 (mB g c x0 0)))),(0,OB.cells 80 (cHs g))] 20360) ?_ ?_
  ·refine swp_seq ?_
   refine sQ (kt:=[1,2,16,17,18,5,6,68,69,70]) (kh:=[0,5000]) (q:=tn 4) (st':=ASt.mk [(1,iv c),(2,.ptr 0 []),(16,.sl 4 (Hs.things g).length fun (i:Nat)=>cThg (thg g i)),(17,iv (↑((Hs.things g).length):Int)),(18,iv (x0:Int)),(5,.ptr 5000 []),(6,iv (x0:Int)),(68,aMrks (Hs.marks g)),(69,iv (↑((Hs.marks g).length):Int)),(70,iv 0)] [(0,.cells 80 (cHs g)),(5000,.cells 134 (cHo g c (wS (tS g c x0) x0 (mS g c x0 0)) (wS (tB g c x0) x0 (mB g c x0 0))))] 20392) (tp 4) ?_
   refine swp_block ?_
   refine swp_loopA (z104_1 g c x0) (eQ hE [] [(0,.same 0),(5001,.same 5000)] [1,16,17,18,6,68,69] [0] (((zT (iv c))/\(zP 0)/\(zT (AV.sl 4 (Hs.things g).length fun (i:Nat)=>cThg (thg g i)))/\(zT (iv (↑((Hs.things g).length):Int)))/\(zT (iv (x0:Int)))/\(zT (iv (x0:Int)))/\(zT (aMrks (Hs.marks g)))/\(zT (iv (↑((Hs.marks g).length):Int)))/\(zN (iv 0) (iv (↑0:Int)))/\(zP 5000)/\True)/\((zT (OB.cells 80 (cHs g)))/\(134=134/\((4=4/\(Hs.things g).length=(Hs.things g).length /\ ∀ (i57:Nat),i57 < (Hs.things g).length->cThg (thg g i57)=cThg (thg g i57))/\(3=3/\(Hs.marks g).length=(Hs.marks g).length /\ ∀ (i59:Nat),i59 < (Hs.marks g).length->cMrk ((Hs.marks g).getD i59 default)=cMrk ((Hs.marks g).getD i59 default))/\(zM (iv c))/\(1=1/\8=8 /\ ∀ (i61:Nat),i61 < 8 -> [iv (wS (tS g c x0) x0 (mS g c x0 0) i61)] = [iv (wS (tS g c x0) x0 (mS g c x0 0) i61)])/\(1=1/\8=8 /\ ∀ (i63:Nat),i63 < 8 -> [iv (wS (tB g c x0) x0 (mB g c x0 0) i63)] = [iv (wS (tB g c x0) x0 (mB g c x0 0) i63)])/\True)/\true=true)/\True)/\T2) ⟨⟨⟨rfl,rfl⟩,⟨rfl,rfl⟩,⟨rfl,rfl⟩,⟨rfl,rfl⟩,⟨rfl,rfl⟩,⟨rfl,rfl⟩,⟨rfl,rfl⟩,⟨rfl,rfl⟩,⟨(congrArg iv (o30 hp x0 hx0 h9)),rfl⟩,⟨rfl,rfl⟩,tv⟩,⟨⟨rfl,rfl⟩,⟨rfl,⟨⟨rfl,rfl,(fun i57=>(fun h58=>rfl))⟩,⟨rfl,rfl,(fun i59=>(fun h60=>rfl))⟩,⟨rfl,rfl⟩,⟨rfl,rfl,(fun i61=>(fun h62=>rfl))⟩,⟨rfl,rfl,(fun i63=>(fun h64=>rfl))⟩,tv⟩,rfl⟩,tv⟩,rfl,rfl⟩) (o31 hp x0 hx0 h9) (fun (x56:Nat) hx56 => ?_)
   refine swp_seq ?_
   refine sQ (kt:=[1,2,16,17,18,6,68,69,70,5,71]) (kh:=[0,5001]) (q:=True/\True) (st':=ASt.mk [(1,iv c),(2,.ptr 0 []),(16,.sl 4 (Hs.things g).length fun (i:Nat)=>cThg (thg g i)),(17,iv (↑((Hs.things g).length):Int)),(18,iv (x0:Int)),(6,iv (x0:Int)),(68,aMrks (Hs.marks g)),(69,iv (↑((Hs.marks g).length):Int)),(70,iv (x56:Int)),(5,.ptr 5001 []),(71,bv (decide ((x56:Int) < (↑((Hs.marks g).length):Int))))] [(0,.cells 80 (cHs g)),(5001,.cells 134 (cHo g c (wS (tS g c x0) x0 (mS g c x0 x56)) (wS (tB g c x0) x0 (mB g c x0 x56))))] 30400) ⟨tv,tv⟩ ?_
   refine swp_seq ?_
   refine swp_cond (decide ((x56:Int) < (↑((Hs.marks g).length):Int))) (by kernel_rfl) (fun h65 => ?_) (fun h65 => ?_)
   ·refine swp_skip (swp_seq (swp_block (swp_seq ?_)))
    refine sQ (kt:=[1,2,16,17,18,6,68,69,70,5,9,8]) (kh:=[0,5001,30424]) (q:=True/\(0<=(x56:Int)/\(x56:Int) < (↑((Hs.marks g).length):Int))/\tn 4) (st':=ASt.mk [(1,iv c),(2,.ptr 0 []),(16,.sl 4 (Hs.things g).length fun (i:Nat)=>cThg (thg g i)),(17,iv (↑((Hs.things g).length):Int)),(18,iv (x0:Int)),(6,iv (x0:Int)),(68,aMrks (Hs.marks g)),(69,iv (↑((Hs.marks g).length):Int)),(70,iv (x56:Int)),(5,.ptr 5001 []),(9,.ptr 30424 []),(8,iv (x56:Int))] [(0,.cells 80 (cHs g)),(5001,.cells 134 (cHo g c (wS (tS g c x0) x0 (mS g c x0 x56)) (wS (tB g c x0) x0 (mB g c x0 x56)))),(30424,.cells 126 (cMrk ((Hs.marks g).getD x56 default)))] 30448) ⟨tv,⟨(o32 hp x0 hx0 h9 x56 hx56 h65),(o33 hp x0 hx0 h9 x56 hx56 h65)⟩,tp 4⟩ ?_
    refine swp_seq ?_
    refine sQ (kt:=[1,2,16,17,18,6,68,69,70,5,9,8,10]) (kh:=[0,5001,30424]) (q:=True/\True/\True/\True/\True/\(decide (Mrk.th ((Hs.marks g).getD x56 default)=(x0:Int))=true->(True/\True)/\True)/\(decide (Mrk.th ((Hs.marks g).getD x56 default)=(x0:Int))=true->((decide (Mrk.th ((Hs.marks g).getD x56 default)=(x0:Int))=true->decide (Mrk.th ((Hs.marks g).getD x56 default)=(x0:Int))=true)/\True)/\True)/\(decide (Mrk.th ((Hs.marks g).getD x56 default)=(x0:Int))=true->(True/\True)/\True)/\(decide (Mrk.th ((Hs.marks g).getD x56 default)=(x0:Int))=true->((decide (Mrk.th ((Hs.marks g).getD x56 default)=(x0:Int))=true->decide (Mrk.th ((Hs.marks g).getD x56 default)=(x0:Int))=true)/\(decide (Mrk.th ((Hs.marks g).getD x56 default)=(x0:Int))=true->decide (Mrk.th ((Hs.marks g).getD x56 default)=(x0:Int))=true)/\True)/\True)/\((decide (Mrk.th ((Hs.marks g).getD x56 default)=(x0:Int))=true->decide (Mrk.th ((Hs.marks g).getD x56 default)=(x0:Int))=true)/\(decide (Mrk.th ((Hs.marks g).getD x56 default)=(x0:Int))=false->True))/\True/\True) (st':=ASt.mk [(1,iv c),(2,.ptr 0 []),(16,.sl 4 (Hs.things g).length fun (i:Nat)=>cThg (thg g i)),(17,iv (↑((Hs.things g).length):Int)),(18,iv (x0:Int)),(6,iv (x0:Int)),(68,aMrks (Hs.marks g)),(69,iv (↑((Hs.marks g).length):Int)),(70,iv (x56:Int)),(5,.ptr 5001 []),(9,.ptr 30424 []),(8,iv (x56:Int)),(10,bv (bif decide (Mrk.th ((Hs.marks g).getD x56 default)=(x0:Int)) then decide (Mrk.ch ((Hs.marks g).getD x56 default)=c) else false))] [(0,.cells 80 (cHs g)),(5001,.cells 134 (cHo g c (wS (tS g c x0) x0 (mS g c x0 x56)) (wS (tB g c x0) x0 (mB g c x0 x56)))),(30424,.cells 126 (cMrk ((Hs.marks g).getD x56 default)))] 30536) ⟨tv,tv,tv,tv,tv,(fun h66=>⟨⟨tv,tv⟩,tv⟩),(fun h67=>⟨⟨(fun h68=>h67),tv⟩,tv⟩),(fun h69=>⟨⟨tv,tv⟩,tv⟩),(fun h70=>⟨⟨(fun h71=>h70),(fun h72=>h70),tv⟩,tv⟩),⟨(fun h73=>h73),(fun h74=>tv)⟩,tv,tv⟩ ?_
    refine swp_seq ?_
    refine sC (cs:=[(24,CallSpec.eq (c104 g c x0 x56) [true,true])]) (kt:=[1,2,16,17,18,6,68,69,70,5,9,8,113]) (kh:=[0,5001,30424]) (q:=True/\True/\((bif decide (Mrk.th ((Hs.marks g).getD x56 default)=(x0:Int)) then decide (Mrk.ch ((Hs.marks g).getD x56 default)=c) else false)=true->(True/\True)/\True)/\((bif decide (Mrk.th ((Hs.marks g).getD x56 default)=(x0:Int)) then decide (Mrk.ch ((Hs.marks g).getD x56 default)=c) else false)=true->(((bif decide (Mrk.th ((Hs.marks g).getD x56 default)=(x0:Int)) then decide (Mrk.ch ((Hs.marks g).getD x56 default)=c) else false)=true->(bif decide (Mrk.th ((Hs.marks g).getD x56 default)=(x0:Int)) then decide (Mrk.ch ((Hs.marks g).getD x56 default)=c) else false)=true)/\True)/\True)/\((bif decide (Mrk.th ((Hs.marks g).getD x56 default)=(x0:Int)) then decide (Mrk.ch ((Hs.marks g).getD x56 default)=c) else false)=true->(True/\True)/\True)/\((bif decide (Mrk.th ((Hs.marks g).getD x56 default)=(x0:Int)) then decide (Mrk.ch ((Hs.marks g).getD x56 default)=c) else false)=true->(True/\True)/\True)/\((bif decide (Mrk.th ((Hs.marks g).getD x56 default)=(x0:Int)) then decide (Mrk.ch ((Hs.marks g).getD x56 default)=c) else false)=true->(((bif decide (Mrk.th ((Hs.marks g).getD x56 default)=(x0:Int)) then decide (Mrk.ch ((Hs.marks g).getD x56 default)=c) else false)=true->(bif decide (Mrk.th ((Hs.marks g).getD x56 default)=(x0:Int)) then decide (Mrk.ch ((Hs.marks g).getD x56 default)=c) else false)=true)/\True)/\True)/\((bif decide (Mrk.th ((Hs.marks g).getD x56 default)=(x0:Int)) then decide (Mrk.ch ((Hs.marks g).getD x56 default)=c) else false)=true->(((bif decide (Mrk.th ((Hs.marks g).getD x56 default)=(x0:Int)) then decide (Mrk.ch ((Hs.marks g).getD x56 default)=c) else false)=true->(bif decide (Mrk.th ((Hs.marks g).getD x56 default)=(x0:Int)) then decide (Mrk.ch ((Hs.marks g).getD x56 default)=c) else false)=true)/\True)/\True)/\((bif decide (Mrk.th ((Hs.marks g).getD x56 default)=(x0:Int)) then decide (Mrk.ch ((Hs.marks g).getD x56 default)=c) else false)=true->(((bif decide (Mrk.th ((Hs.marks g).getD x56 default)=(x0:Int)) then decide (Mrk.ch ((Hs.marks g).getD x56 default)=c) else false)=true->(bif decide (Mrk.th ((Hs.marks g).getD x56 default)=(x0:Int)) then decide (Mrk.ch ((Hs.marks g).getD x56 default)=c) else false)=true)/\((bif decide (Mrk.th ((Hs.marks g).getD x56 default)=(x0:Int)) then decide (Mrk.ch ((Hs.marks g).getD x56 default)=c) else false)=true->(bif decide (Mrk.th ((Hs.marks g).getD x56 default)=(x0:Int)) then decide (Mrk.ch ((Hs.marks g).getD x56 default)=c) else false)=true)/\True)/\0<=(x0:Int)/\(x0:Int) < (↑8:Int))/\((bif decide (Mrk.th ((Hs.marks g).getD x56 default)=(x0:Int)) then decide (Mrk.ch ((Hs.marks g).getD x56 default)=c) else false)=true->(((bif decide (Mrk.th ((Hs.marks g).getD x56 default)=(x0:Int)) then decide (Mrk.ch ((Hs.marks g).getD x56 default)=c) else false)=true->(bif decide (Mrk.th ((Hs.marks g).getD x56 default)=(x0:Int)) then decide (Mrk.ch ((Hs.marks g).getD x56 default)=c) else false)=true)/\True)/\x0 < 8/\True)/\((bif decide (Mrk.th ((Hs.marks g).getD x56 default)=(x0:Int)) then decide (Mrk.ch ((Hs.marks g).getD x56 default)=c) else false)=true->(((bif decide (Mrk.th ((Hs.marks g).getD x56 default)=(x0:Int)) then decide (Mrk.ch ((Hs.marks g).getD x56 default)=c) else false)=true->(bif decide (Mrk.th ((Hs.marks g).getD x56 default)=(x0:Int)) then decide (Mrk.ch ((Hs.marks g).getD x56 default)=c) else false)=true)/\((bif decide (Mrk.th ((Hs.marks g).getD x56 default)=(x0:Int)) then decide (Mrk.ch ((Hs.marks g).getD x56 default)=c) else false)=true->(bif decide (Mrk.th ((Hs.marks g).getD x56 default)=(x0:Int)) then decide (Mrk.ch ((Hs.marks g).getD x56 default)=c) else false)=true)/\True)/\True)/\((bif decide (Mrk.th ((Hs.marks g).getD x56 default)=(x0:Int)) then decide (Mrk.ch ((Hs.marks g).getD x56 default)=c) else false)=true->(((bif decide (Mrk.th ((Hs.marks g).getD x56 default)=(x0:Int)) then decide (Mrk.ch ((Hs.marks g).getD x56 default)=c) else false)=true->(bif decide (Mrk.th ((Hs.marks g).getD x56 default)=(x0:Int)) then decide (Mrk.ch ((Hs.marks g).getD x56 default)=c) else false)=true)/\True)/\True)/\(((bif decide (Mrk.th ((Hs.marks g).getD x56 default)=(x0:Int)) then decide (Mrk.ch ((Hs.marks g).getD x56 default)=c) else false) && !decide (Mrk.at_ ((Hs.marks g).getD x56 default) < wS (tS g c x0) x0 (mS g c x0 x56) x0))=true->(True/\True)/\True)/\(((bif decide (Mrk.th ((Hs.marks g).getD x56 default)=(x0:Int)) then decide (Mrk.ch ((Hs.marks g).getD x56 default)=c) else false) && !decide (Mrk.at_ ((Hs.marks g).getD x56 default) < wS (tS g c x0) x0 (mS g c x0 x56) x0))=true->((((bif decide (Mrk.th ((Hs.marks g).getD x56 default)=(x0:Int)) then decide (Mrk.ch ((Hs.marks g).getD x56 default)=c) else false) && !decide (Mrk.at_ ((Hs.marks g).getD x56 default) < wS (tS g c x0) x0 (mS g c x0 x56) x0))=true->((bif decide (Mrk.th ((Hs.marks g).getD x56 default)=(x0:Int)) then decide (Mrk.ch ((Hs.marks g).getD x56 default)=c) else false) && !decide (Mrk.at_ ((Hs.marks g).getD x56 default) < wS (tS g c x0) x0 (mS g c x0 x56) x0))=true)/\True)/\True)/\(((bif decide (Mrk.th ((Hs.marks g).getD x56 default)=(x0:Int)) then decide (Mrk.ch ((Hs.marks g).getD x56 default)=c) else false) && !decide (Mrk.at_ ((Hs.marks g).getD x56 default) < wS (tS g c x0) x0 (mS g c x0 x56) x0))=true->(True/\True)/\True)/\(((bif decide (Mrk.th ((Hs.marks g).getD x56 default)=(x0:Int)) then decide (Mrk.ch ((Hs.marks g).getD x56 default)=c) else false) && !decide (Mrk.at_ ((Hs.marks g).getD x56 default) < wS (tS g c x0) x0 (mS g c x0 x56) x0))=true->(True/\True)/\True)/\(((bif decide (Mrk.th ((Hs.marks g).getD x56 default)=(x0:Int)) then decide (Mrk.ch ((Hs.marks g).getD x56 default)=c) else false) && !decide (Mrk.at_ ((Hs.marks g).getD x56 default) < wS (tS g c x0) x0 (mS g c x0 x56) x0))=true->((((bif decide (Mrk.th ((Hs.marks g).getD x56 default)=(x0:Int)) then decide (Mrk.ch ((Hs.marks g).getD x56 default)=c) else false) && !decide (Mrk.at_ ((Hs.marks g).getD x56 default) < wS (tS g c x0) x0 (mS g c x0 x56) x0))=true->((bif decide (Mrk.th ((Hs.marks g).getD x56 default)=(x0:Int)) then decide (Mrk.ch ((Hs.marks g).getD x56 default)=c) else false) && !decide (Mrk.at_ ((Hs.marks g).getD x56 default) < wS (tS g c x0) x0 (mS g c x0 x56) x0))=true)/\True)/\True)/\(((bif decide (Mrk.th ((Hs.marks g).getD x56 default)=(x0:Int)) then decide (Mrk.ch ((Hs.marks g).getD x56 default)=c) else false) && !decide (Mrk.at_ ((Hs.marks g).getD x56 default) < wS (tS g c x0) x0 (mS g c x0 x56) x0))=true->((((bif decide (Mrk.th ((Hs.marks g).getD x56 default)=(x0:Int)) then decide (Mrk.ch ((Hs.marks g).getD x56 default)=c) else false) && !decide (Mrk.at_ ((Hs.marks g).getD x56 default) < wS (tS g c x0) x0 (mS g c x0 x56) x0))=true->((bif decide (Mrk.th ((Hs.marks g).getD x56 default)=(x0:Int)) then decide (Mrk.ch ((Hs.marks g).getD x56 default)=c) else false) && !decide (Mrk.at_ ((Hs.marks g).getD x56 default) < wS (tS g c x0) x0 (mS g c x0 x56) x0))=true)/\True)/\True)/\(((bif decide (Mrk.th ((Hs.marks g).getD x56 default)=(x0:Int)) then decide (Mrk.ch ((Hs.marks g).getD x56 default)=c) else false) && !decide (Mrk.at_ ((Hs.marks g).getD x56 default) < wS (tS g c x0) x0 (mS g c x0 x56) x0))=true->((((bif decide (Mrk.th ((Hs.marks g).getD x56 default)=(x0:Int)) then decide (Mrk.ch ((Hs.marks g).getD x56 default)=c) else false) && !decide (Mrk.at_ ((Hs.marks g).getD x56 default) < wS (tS g c x0) x0 (mS g c x0 x56) x0))=true->((bif decide (Mrk.th ((Hs.marks g).getD x56 default)=(x0:Int)) then decide (Mrk.ch ((Hs.marks g).getD x56 default)=c) else false) && !decide (Mrk.at_ ((Hs.marks g).getD x56 default) < wS (tS g c x0) x0 (mS g c x0 x56) x0))=true)/\(((bif decide (Mrk.th ((Hs.marks g).getD x56 default)=(x0:Int)) then decide (Mrk.ch ((Hs.marks g).getD x56 default)=c) else false) && !decide (Mrk.at_ ((Hs.marks g).getD x56 default) < wS (tS g c x0) x0 (mS g c x0 x56) x0))=true->((bif decide (Mrk.th ((Hs.marks g).getD x56 default)=(x0:Int)) then decide (Mrk.ch ((Hs.marks g).getD x56 default)=c) else false) && !decide (Mrk.at_ ((Hs.marks g).getD x56 default) < wS (tS g c x0) x0 (mS g c x0 x56) x0))=true)/\True)/\0<=(x0:Int)/\(x0:Int) < (↑8:Int))/\(((bif decide (Mrk.th ((Hs.marks g).getD x56 default)=(x0:Int)) then decide (Mrk.ch ((Hs.marks g).getD x56 default)=c) else false) && !decide (Mrk.at_ ((Hs.marks g).getD x56 default) < wS (tS g c x0) x0 (mS g c x0 x56) x0))=true->((((bif decide (Mrk.th ((Hs.marks g).getD x56 default)=(x0:Int)) then decide (Mrk.ch ((Hs.marks g).getD x56 default)=c) else false) && !decide (Mrk.at_ ((Hs.marks g).getD x56 default) < wS (tS g c x0) x0 (mS g c x0 x56) x0))=true->((bif decide (Mrk.th ((Hs.marks g).getD x56 default)=(x0:Int)) then decide (Mrk.ch ((Hs.marks g).getD x56 default)=c) else false) && !decide (Mrk.at_ ((Hs.marks g).getD x56 default) < wS (tS g c x0) x0 (mS g c x0 x56) x0))=true)/\True)/\x0 < 8/\True)/\(((bif decide (Mrk.th ((Hs.marks g).getD x56 default)=(x0:Int)) then decide (Mrk.ch ((Hs.marks g).getD x56 default)=c) else false) && !decide (Mrk.at_ ((Hs.marks g).getD x56 default) < wS (tS g c x0) x0 (mS g c x0 x56) x0))=true->((((bif decide (Mrk.th ((Hs.marks g).getD x56 default)=(x0:Int)) then decide (Mrk.ch ((Hs.marks g).getD x56 default)=c) else false) && !decide (Mrk.at_ ((Hs.marks g).getD x56 default) < wS (tS g c x0) x0 (mS g c x0 x56) x0))=true->((bif decide (Mrk.th ((Hs.marks g).getD x56 default)=(x0:Int)) then decide (Mrk.ch ((Hs.marks g).getD x56 default)=c) else false) && !decide (Mrk.at_ ((Hs.marks g).getD x56 default) < wS (tS g c x0) x0 (mS g c x0 x56) x0))=true)/\(((bif decide (Mrk.th ((Hs.marks g).getD x56 default)=(x0:Int)) then decide (Mrk.ch ((Hs.marks g).getD x56 default)=c) else false) && !decide (Mrk.at_ ((Hs.marks g).getD x56 default) < wS (tS g c x0) x0 (mS g c x0 x56) x0))=true->((bif decide (Mrk.th ((Hs.marks g).getD x56 default)=(x0:Int)) then decide (Mrk.ch ((Hs.marks g).getD x56 default)=c) else false) && !decide (Mrk.at_ ((Hs.marks g).getD x56 default) < wS (tS g c x0) x0 (mS g c x0 x56) x0))=true)/\True)/\True)/\(((bif decide (Mrk.th ((Hs.marks g).getD x56 default)=(x0:Int)) then decide (Mrk.ch ((Hs.marks g).getD x56 default)=c) else false) && !decide (Mrk.at_ ((Hs.marks g).getD x56 default) < wS (tS g c x0) x0 (mS g c x0 x56) x0))=true->((((bif decide (Mrk.th ((Hs.marks g).getD x56 default)=(x0:Int)) then decide (Mrk.ch ((Hs.marks g).getD x56 default)=c) else false) && !decide (Mrk.at_ ((Hs.marks g).getD x56 default) < wS (tS g c x0) x0 (mS g c x0 x56) x0))=true->((bif decide (Mrk.th ((Hs.marks g).getD x56 default)=(x0:Int)) then decide (Mrk.ch ((Hs.marks g).getD x56 default)=c) else false) && !decide (Mrk.at_ ((Hs.marks g).getD x56 default) < wS (tS g c x0) x0 (mS g c x0 x56) x0))=true)/\True)/\True)/\(((bif decide (Mrk.th ((Hs.marks g).getD x56 default)=(x0:Int)) then decide (Mrk.ch ((Hs.marks g).getD x56 default)=c) else false) && !decide (Mrk.at_ ((Hs.marks g).getD x56 default) < wS (tS g c x0) x0 (mS g c x0 x56) x0) && decide (Mrk.at_ ((Hs.marks g).getD x56 default)=wS (tS g c x0) x0 (mS g c x0 x56) x0))=true->(True/\True)/\True)/\(((bif decide (Mrk.th ((Hs.marks g).getD x56 default)=(x0:Int)) then decide (Mrk.ch ((Hs.marks g).getD x56 default)=c) else false) && !decide (Mrk.at_ ((Hs.marks g).getD x56 default) < wS (tS g c x0) x0 (mS g c x0 x56) x0) && decide (Mrk.at_ ((Hs.marks g).getD x56 default)=wS (tS g c x0) x0 (mS g c x0 x56) x0))=true->(True/\True)/\True)/\(((bif decide (Mrk.th ((Hs.marks g).getD x56 default)=(x0:Int)) then decide (Mrk.ch ((Hs.marks g).getD x56 default)=c) else false) && !decide (Mrk.at_ ((Hs.marks g).getD x56 default) < wS (tS g c x0) x0 (mS g c x0 x56) x0) && decide (Mrk.at_ ((Hs.marks g).getD x56 default)=wS (tS g c x0) x0 (mS g c x0 x56) x0))=true->(True/\(((bif decide (Mrk.th ((Hs.marks g).getD x56 default)=(x0:Int)) then decide (Mrk.ch ((Hs.marks g).getD x56 default)=c) else false) && !decide (Mrk.at_ ((Hs.marks g).getD x56 default) < wS (tS g c x0) x0 (mS g c x0 x56) x0) && decide (Mrk.at_ ((Hs.marks g).getD x56 default)=wS (tS g c x0) x0 (mS g c x0 x56) x0))=true->((bif decide (Mrk.th ((Hs.marks g).getD x56 default)=(x0:Int)) then decide (Mrk.ch ((Hs.marks g).getD x56 default)=c) else false) && !decide (Mrk.at_ ((Hs.marks g).getD x56 default) < wS (tS g c x0) x0 (mS g c x0 x56) x0) && decide (Mrk.at_ ((Hs.marks g).getD x56 default)=wS (tS g c x0) x0 (mS g c x0 x56) x0))=true)/\(((bif decide (Mrk.th ((Hs.marks g).getD x56 default)=(x0:Int)) then decide (Mrk.ch ((Hs.marks g).getD x56 default)=c) else false) && !decide (Mrk.at_ ((Hs.marks g).getD x56 default) < wS (tS g c x0) x0 (mS g c x0 x56) x0) && decide (Mrk.at_ ((Hs.marks g).getD x56 default)=wS (tS g c x0) x0 (mS g c x0 x56) x0))=true->((bif decide (Mrk.th ((Hs.marks g).getD x56 default)=(x0:Int)) then decide (Mrk.ch ((Hs.marks g).getD x56 default)=c) else false) && !decide (Mrk.at_ ((Hs.marks g).getD x56 default) < wS (tS g c x0) x0 (mS g c x0 x56) x0) && decide (Mrk.at_ ((Hs.marks g).getD x56 default)=wS (tS g c x0) x0 (mS g c x0 x56) x0))=true)/\True)/\((zE (AV.ptr 5001 [])/\zE (iv (x0:Int))/\True)/\Triple Try.prog 131 (c104 g c x0 x56)/\(x0 < 8/\wS (tB g c x0) x0 (mB g c x0 x56) x0 < (↑((Hs.marks g).length):Int))/\(zE (some (OB.cells 134 (cHo g c (wS (tS g c x0) x0 (mS g c x0 x56)) (wS (tB g c x0) x0 (mB g c x0 x56)))))/\True) /\ ∀ (i118:Env),True)/\some (OB.cells 134 (cHo g c (wS (tS g c x0) x0 (mS g c x0 x56)) (wS (tB g c x0) x0 (mB g c x0 x56))))=some (OB.cells 134 (cHo g c (wS (tS g c x0) x0 (mS g c x0 x56)) (wS (tB g c x0) x0 (mB g c x0 x56)))))/\(((bif decide (Mrk.th ((Hs.marks g).getD x56 default)=(x0:Int)) then decide (Mrk.ch ((Hs.marks g).getD x56 default)=c) else false) && !decide (Mrk.at_ ((Hs.marks g).getD x56 default) < wS (tS g c x0) x0 (mS g c x0 x56) x0) && decide (Mrk.at_ ((Hs.marks g).getD x56 default)=wS (tS g c x0) x0 (mS g c x0 x56) x0))=true->((((bif decide (Mrk.th ((Hs.marks g).getD x56 default)=(x0:Int)) then decide (Mrk.ch ((Hs.marks g).getD x56 default)=c) else false) && !decide (Mrk.at_ ((Hs.marks g).getD x56 default) < wS (tS g c x0) x0 (mS g c x0 x56) x0) && decide (Mrk.at_ ((Hs.marks g).getD x56 default)=wS (tS g c x0) x0 (mS g c x0 x56) x0))=true->((bif decide (Mrk.th ((Hs.marks g).getD x56 default)=(x0:Int)) then decide (Mrk.ch ((Hs.marks g).getD x56 default)=c) else false) && !decide (Mrk.at_ ((Hs.marks g).getD x56 default) < wS (tS g c x0) x0 (mS g c x0 x56) x0) && decide (Mrk.at_ ((Hs.marks g).getD x56 default)=wS (tS g c x0) x0 (mS g c x0 x56) x0))=true)/\True)/\True)/\(((bif decide (Mrk.th ((Hs.marks g).getD x56 default)=(x0:Int)) then decide (Mrk.ch ((Hs.marks g).getD x56 default)=c) else false) && !decide (Mrk.at_ ((Hs.marks g).getD x56 default) < wS (tS g c x0) x0 (mS g c x0 x56) x0))=true->((((bif decide (Mrk.th ((Hs.marks g).getD x56 default)=(x0:Int)) then decide (Mrk.ch ((Hs.marks g).getD x56 default)=c) else false) && !decide (Mrk.at_ ((Hs.marks g).getD x56 default) < wS (tS g c x0) x0 (mS g c x0 x56) x0))=true->((bif decide (Mrk.th ((Hs.marks g).getD x56 default)=(x0:Int)) then decide (Mrk.ch ((Hs.marks g).getD x56 default)=c) else false) && !decide (Mrk.at_ ((Hs.marks g).getD x56 default) < wS (tS g c x0) x0 (mS g c x0 x56) x0))=true)/\True)/\(decide (Mrk.at_ ((Hs.marks g).getD x56 default)=wS (tS g c x0) x0 (mS g c x0 x56) x0)=true->((bif decide (Mrk.th ((Hs.marks g).getD x56 default)=(x0:Int)) then decide (Mrk.ch ((Hs.marks g).getD x56 default)=c) else false) && !decide (Mrk.at_ ((Hs.marks g).getD x56 default) < wS (tS g c x0) x0 (mS g c x0 x56) x0) && decide (Mrk.at_ ((Hs.marks g).getD x56 default)=wS (tS g c x0) x0 (mS g c x0 x56) x0))=true)/\(decide (Mrk.at_ ((Hs.marks g).getD x56 default)=wS (tS g c x0) x0 (mS g c x0 x56) x0)=false->True))/\((bif decide (Mrk.th ((Hs.marks g).getD x56 default)=(x0:Int)) then decide (Mrk.ch ((Hs.marks g).getD x56 default)=c) else false)=true->(((bif decide (Mrk.th ((Hs.marks g).getD x56 default)=(x0:Int)) then decide (Mrk.ch ((Hs.marks g).getD x56 default)=c) else false)=true->(bif decide (Mrk.th ((Hs.marks g).getD x56 default)=(x0:Int)) then decide (Mrk.ch ((Hs.marks g).getD x56 default)=c) else false)=true)/\True)/\(decide (Mrk.at_ ((Hs.marks g).getD x56 default) < wS (tS g c x0) x0 (mS g c x0 x56) x0)=true->True)/\(decide (Mrk.at_ ((Hs.marks g).getD x56 default) < wS (tS g c x0) x0 (mS g c x0 x56) x0)=false->((bif decide (Mrk.th ((Hs.marks g).getD x56 default)=(x0:Int)) then decide (Mrk.ch ((Hs.marks g).getD x56 default)=c) else false) && !decide (Mrk.at_ ((Hs.marks g).getD x56 default) < wS (tS g c x0) x0 (mS g c x0 x56) x0))=true))/\(((bif decide (Mrk.th ((Hs.marks g).getD x56 default)=(x0:Int)) then decide (Mrk.ch ((Hs.marks g).getD x56 default)=c) else false)=true->(bif decide (Mrk.th ((Hs.marks g).getD x56 default)=(x0:Int)) then decide (Mrk.ch ((Hs.marks g).getD x56 default)=c) else false)=true)/\((bif decide (Mrk.th ((Hs.marks g).getD x56 default)=(x0:Int)) then decide (Mrk.ch ((Hs.marks g).getD x56 default)=c) else false)=false->True))/\True) (st':=ASt.mk [(1,iv c),(2,.ptr 0 []),(16,.sl 4 (Hs.things g).length fun (i:Nat)=>cThg (thg g i)),(17,iv (↑((Hs.things g).length):Int)),(18,iv (x0:Int)),(6,iv (x0:Int)),(68,aMrks (Hs.marks g)),(69,iv (↑((Hs.marks g).length):Int)),(70,iv (x56:Int)),(5,.ptr 5001 []),(9,.ptr 30424 []),(8,iv (x56:Int)),(113,bv (bif bif decide (Mrk.th ((Hs.marks g).getD x56 default)=(x0:Int)) then decide (Mrk.ch ((Hs.marks g).getD x56 default)=c) else false then bif decide (Mrk.at_ ((Hs.marks g).getD x56 default) < wS (tS g c x0) x0 (mS g c x0 x56) x0) then true else bif decide (Mrk.at_ ((Hs.marks g).getD x56 default)=wS (tS g c x0) x0 (mS g c x0 x56) x0) then !markedB g (wS (tB g c x0) x0 (mB g c x0 x56)) x0 else false else false))] [(0,.cells 80 (cHs g)),(5001,.cells 134 (cHo g c (wS (tS g c x0) x0 (mS g c x0 x56)) (wS (tB g c x0) x0 (mB g c x0 x56)))),(30424,.cells 126 (cMrk ((Hs.marks g).getD x56 default)))] 30768) ⟨tv,tv,(fun h75=>⟨⟨tv,tv⟩,tv⟩),(fun h76=>⟨⟨(fun h77=>h76),tv⟩,tv⟩),(fun h78=>⟨⟨tv,tv⟩,tv⟩),(fun h79=>⟨⟨tv,tv⟩,tv⟩),(fun h80=>⟨⟨(fun h81=>h80),tv⟩,tv⟩),(fun h82=>⟨⟨(fun h83=>h82),tv⟩,tv⟩),(fun h84=>⟨⟨(fun h85=>h84),(fun h86=>h84),tv⟩,(o34 hp x0 hx0 h9 x56 hx56 h65 h84),(o35 hp x0 hx0 h9 x56 hx56 h65 h84)⟩),(fun h87=>⟨⟨(fun h88=>h87),tv⟩,(o36 hp x0 hx0 h9 x56 hx56 h65 h87),tv⟩),(fun h89=>⟨⟨(fun h90=>h89),(fun h91=>h89),tv⟩,tv⟩),(fun h92=>⟨⟨(fun h93=>h92),tv⟩,tv⟩),(fun h94=>⟨⟨tv,tv⟩,tv⟩),(fun h95=>⟨⟨(fun h96=>h95),tv⟩,tv⟩),(fun h97=>⟨⟨tv,tv⟩,tv⟩),(fun h98=>⟨⟨tv,tv⟩,tv⟩),(fun h99=>⟨⟨(fun h100=>h99),tv⟩,tv⟩),(fun h101=>⟨⟨(fun h102=>h101),tv⟩,tv⟩),(fun h103=>⟨⟨(fun h104=>h103),(fun h105=>h103),tv⟩,(o37 hp x0 hx0 h9 x56 hx56 h65 h103),(o38 hp x0 hx0 h9 x56 hx56 h65 h103)⟩),(fun h106=>⟨⟨(fun h107=>h106),tv⟩,(o39 hp x0 hx0 h9 x56 hx56 h65 h106),tv⟩),(fun h108=>⟨⟨(fun h109=>h108),(fun h110=>h108),tv⟩,tv⟩),(fun h111=>⟨⟨(fun h112=>h111),tv⟩,tv⟩),(fun h113=>⟨⟨tv,tv⟩,tv⟩),(fun h114=>⟨⟨tv,tv⟩,tv⟩),(fun h115=>⟨⟨tv,(fun h116=>h115),(fun h117=>h115),tv⟩,⟨⟨rfl,rfl,tv⟩,(t131 _ _ _ _ _ _),⟨(o40 hp x0 hx0 h9 x56 hx56 h65 h115),(o41 hp x0 hx0 h9 x56 hx56 h65 h115)⟩,⟨rfl,tv⟩,(fun i118=>tv)⟩,rfl⟩),(fun h119=>⟨⟨(fun h120=>h119),tv⟩,tv⟩),(fun h121=>⟨⟨(fun h122=>h121),tv⟩,(fun h123=>(o42 hp x0 hx0 h9 x56 hx56 h65 h121 h123)),(fun h124=>tv)⟩),(fun h125=>⟨⟨(fun h126=>h125),tv⟩,(fun h127=>tv),(fun h128=>(o43 hp x0 hx0 h9 x56 hx56 h65 h125 h128))⟩),⟨(fun h129=>h129),(fun h130=>tv)⟩,tv⟩ ?_
    refine swp_cond (bif bif decide (Mrk.th ((Hs.marks g).getD x56 default)=(x0:Int)) then decide (Mrk.ch ((Hs.marks g).getD x56 default)=c) else false then bif decide (Mrk.at_ ((Hs.marks g).getD x56 default) < wS (tS g c x0) x0 (mS g c x0 x56) x0) then true else bif decide (Mrk.at_ ((Hs.marks g).getD x56 default)=wS (tS g c x0) x0 (mS g c x0 x56) x0) then !markedB g (wS (tB g c x0) x0 (mB g c x0 x56)) x0 else false else false) (by kernel_rfl) (fun h131 => ?_) (fun h131 => ?_)
    ·refine sQ (kt:=[1,2,16,17,18,6,68,69,70,5]) (kh:=[0,5001]) (q:=True/\True/\True/\True/\True/\True/\True/\True/\True/\(0<=(x0:Int)/\(x0:Int) < (↑8:Int))/\(x0 < 8/\True)/\True/\True/\(0<=(x0:Int)/\(x0:Int) < (↑8:Int))/\(x0 < 8/\True)/\True) (st':=ASt.mk [(1,iv c),(2,.ptr 0 []),(16,.sl 4 (Hs.things g).length fun (i:Nat)=>cThg (thg g i)),(17,iv (↑((Hs.things g).length):Int)),(18,iv (x0:Int)),(6,iv (x0:Int)),(68,aMrks (Hs.marks g)),(69,iv (↑((Hs.marks g).length):Int)),(70,iv (x56:Int)),(5,.ptr 5001 [])] [(0,.cells 80 (cHs g)),(5001,.cells 134 [.sl 4 (Hs.things g).length fun (i:Nat)=>cThg (thg g i),aMrks (Hs.marks g),iv c,.arr 1 8 fun (j:Nat)=>Decidable.rec (fun (h:¬j=x0)=>[iv (wS (tS g c x0) x0 (mS g c x0 x56) j)]) (fun (h:j=x0)=>[iv (Mrk.at_ ((Hs.marks g).getD x56 default))] ++ []) (instDecidableEqNat j x0),.arr 1 8 fun (j:Nat)=>Decidable.rec (fun (h:¬j=x0)=>[iv (wS (tB g c x0) x0 (mB g c x0 x56) j)]) (fun (h:j=x0)=>[iv (x56:Int)] ++ []) (instDecidableEqNat j x0)])] 30888) ⟨tv,tv,tv,tv,tv,tv,tv,tv,tv,⟨(o44 hp x0 hx0 h9 x56 hx56 h65 h131),(o45 hp x0 hx0 h9 x56 hx56 h65 h131)⟩,⟨(o46 hp x0 hx0 h9 x56 hx56 h65 h131),tv⟩,tv,tv,⟨(o47 hp x0 hx0 h9 x56 hx56 h65 h131),(o48 hp x0 hx0 h9 x56 hx56 h65 h131)⟩,⟨(o49 hp x0 hx0 h9 x56 hx56 h65 h131),tv⟩,tv⟩ ?_
     refine sQ (kt:=[1,2,16,17,18,6,68,69,70,5]) (kh:=[0,5001]) (q:=inI ((x56:Int) + 1)/\True/\True) (st':=ASt.mk [(1,iv c),(2,.ptr 0 []),(16,.sl 4 (Hs.things g).length fun (i:Nat)=>cThg (thg g i)),(17,iv (↑((Hs.things g).length):Int)),(18,iv (x0:Int)),(6,iv (x0:Int)),(68,aMrks (Hs.marks g)),(69,iv (↑((Hs.marks g).length):Int)),(70,iv ((x56:Int) + 1)),(5,.ptr 5001 [])] [(0,.cells 80 (cHs g)),(5001,.cells 134 [.sl 4 (Hs.things g).length fun (i:Nat)=>cThg (thg g i),aMrks (Hs.marks g),iv c,.arr 1 8 fun (j:Nat)=>Decidable.rec (fun (h:¬j=x0)=>[iv (wS (tS g c x0) x0 (mS g c x0 x56) j)]) (fun (h:j=x0)=>[iv (Mrk.at_ ((Hs.marks g).getD x56 default))] ++ []) (instDecidableEqNat j x0),.arr 1 8 fun (j:Nat)=>Decidable.rec (fun (h:¬j=x0)=>[iv (wS (tB g c x0) x0 (mB g c x0 x56) j)]) (fun (h:j=x0)=>[iv (x56:Int)] ++ []) (instDecidableEqNat j x0)])] 30904) ⟨(o50 hp x0 hx0 h9 x56 hx56 h65 h131),tv,tv⟩ ?_
     exact loop_next (z104_1 g c x0) x56 (eQ hE [] [(0,.same 0),(5001,.same 5001)] [1,16,17,18,6,68,69] [0] (((zT (iv c))/\(zP 0)/\(zT (AV.sl 4 (Hs.things g).length fun (i:Nat)=>cThg (thg g i)))/\(zT (iv (↑((Hs.things g).length):Int)))/\(zT (iv (x0:Int)))/\(zT (iv (x0:Int)))/\(zT (aMrks (Hs.marks g)))/\(zT (iv (↑((Hs.marks g).length):Int)))/\(zN (iv ((x56:Int) + 1)) (iv (↑(x56 + 1):Int)))/\(zP 5001)/\True)/\((zT (OB.cells 80 (cHs g)))/\(134=134/\((4=4/\(Hs.things g).length=(Hs.things g).length /\ ∀ (i132:Nat),i132 < (Hs.things g).length->cThg (thg g i132)=cThg (thg g i132))/\(3=3/\(Hs.marks g).length=(Hs.marks g).length /\ ∀ (i134:Nat),i134 < (Hs.marks g).length->cMrk ((Hs.marks g).getD i134 default)=cMrk ((Hs.marks g).getD i134 default))/\(zM (iv c))/\(1=1/\8=8 /\ ∀ (i136:Nat),i136 < 8->Decidable.rec (fun (h:¬i136=x0)=>[iv (wS (tS g c x0) x0 (mS g c x0 x56) i136)]) (fun (h:i136=x0)=>[iv (Mrk.at_ ((Hs.marks g).getD x56 default))] ++ []) (instDecidableEqNat i136 x0) = [iv (wS (tS g c x0) x0 (mS g c x0 (x56 + 1)) i136)])/\(1=1/\8=8 /\ ∀ (i138:Nat),i138 < 8->Decidable.rec (fun (h:¬i138=x0)=>[iv (wS (tB g c x0) x0 (mB g c x0 x56) i138)]) (fun (h:i138=x0)=>[iv (x56:Int)] ++ []) (instDecidableEqNat i138 x0) = [iv (wS (tB g c x0) x0 (mB g c x0 (x56 + 1)) i138)])/\True)/\true=true)/\True)/\T2) ⟨⟨⟨rfl,rfl⟩,⟨rfl,rfl⟩,⟨rfl,rfl⟩,⟨rfl,rfl⟩,⟨rfl,rfl⟩,⟨rfl,rfl⟩,⟨rfl,rfl⟩,⟨rfl,rfl⟩,⟨(congrArg iv (o51 hp x0 hx0 h9 x56 hx56 h65 h131)),rfl⟩,⟨rfl,rfl⟩,tv⟩,⟨⟨rfl,rfl⟩,⟨rfl,⟨⟨rfl,rfl,(fun i132=>(fun h133=>rfl))⟩,⟨rfl,rfl,(fun i134=>(fun h135=>rfl))⟩,⟨rfl,rfl⟩,⟨rfl,rfl,(fun i136=>(fun h137=>(o52 hp x0 hx0 h9 x56 hx56 h65 h131 i136 h137)))⟩,⟨rfl,rfl,(fun i138=>(fun h139=>(o53 hp x0 hx0 h9 x56 hx56 h65 h131 i138 h139)))⟩,tv⟩,rfl⟩,tv⟩,rfl,rfl⟩) (o54 hp x0 hx0 h9 x56 hx56 h65 h131) (o55 hp x0 hx0 h9 x56 hx56 h65 h131)
    ·refine swp_skip ?_
     refine sQ (kt:=[1,2,16,17,18,6,68,69,70,5]) (kh:=[0,5001]) (q:=inI ((x56:Int) + 1)/\True/\True) (st':=ASt.mk [(1,iv c),(2,.ptr 0 []),(16,.sl 4 (Hs.things g).length fun (i:Nat)=>cThg (thg g i)),(17,iv (↑((Hs.things g).length):Int)),(18,iv (x0:Int)),(6,iv (x0:Int)),(68,aMrks (Hs.marks g)),(69,iv (↑((Hs.marks g).length):Int)),(70,iv ((x56:Int) + 1)),(5,.ptr 5001 [])] [(0,.cells 80 (cHs g)),(5001,.cells 134 (cHo g c (wS (tS g c x0) x0 (mS g c x0 x56)) (wS (tB g c x0) x0 (mB g c x0 x56))))] 30784) ⟨(o56 hp x0 hx0 h9 x56 hx56 h65 h131),tv,tv⟩ ?_
     exact loop_next (z104_1 g c x0) x56 (eQ hE [] [(0,.same 0),(5001,.same 5001)] [1,16,17,18,6,68,69] [0] (((zT (iv c))/\(zP 0)/\(zT (AV.sl 4 (Hs.things g).length fun (i:Nat)=>cThg (thg g i)))/\(zT (iv (↑((Hs.things g).length):Int)))/\(zT (iv (x0:Int)))/\(zT (iv (x0:Int)))/\(zT (aMrks (Hs.marks g)))/\(zT (iv (↑((Hs.marks g).length):Int)))/\(zN (iv ((x56:Int) + 1)) (iv (↑(x56 + 1):Int)))/\(zP 5001)/\True)/\((zT (OB.cells 80 (cHs g)))/\(134=134/\((4=4/\(Hs.things g).length=(Hs.things g).length /\ ∀ (i140:Nat),i140 < (Hs.things g).length->cThg (thg g i140)=cThg (thg g i140))/\(3=3/\(Hs.marks g).length=(Hs.marks g).length /\ ∀ (i142:Nat),i142 < (Hs.marks g).length->cMrk ((Hs.marks g).getD i142 default)=cMrk ((Hs.marks g).getD i142 default))/\(zM (iv c))/\(1=1/\8=8 /\ ∀ (i144:Nat),i144 < 8 -> [iv (wS (tS g c x0) x0 (mS g c x0 x56) i144)] = [iv (wS (tS g c x0) x0 (mS g c x0 (x56 + 1)) i144)])/\(1=1/\8=8 /\ ∀ (i146:Nat),i146 < 8 -> [iv (wS (tB g c x0) x0 (mB g c x0 x56) i146)] = [iv (wS (tB g c x0) x0 (mB g c x0 (x56 + 1)) i146)])/\True)/\true=true)/\True)/\T2) ⟨⟨⟨rfl,rfl⟩,⟨rfl,rfl⟩,⟨rfl,rfl⟩,⟨rfl,rfl⟩,⟨rfl,rfl⟩,⟨rfl,rfl⟩,⟨rfl,rfl⟩,⟨rfl,rfl⟩,⟨(congrArg iv (o57 hp x0 hx0 h9 x56 hx56 h65 h131)),rfl⟩,⟨rfl,rfl⟩,tv⟩,⟨⟨rfl,rfl⟩,⟨rfl,⟨⟨rfl,rfl,(fun i140=>(fun h141=>rfl))⟩,⟨rfl,rfl,(fun i142=>(fun h143=>rfl))⟩,⟨rfl,rfl⟩,⟨rfl,rfl,(fun i144=>(fun h145=>(o58 hp x0 hx0 h9 x56 hx56 h65 h131 i144 h145)))⟩,⟨rfl,rfl,(fun i146=>(fun h147=>(o59 hp x0 hx0 h9 x56 hx56 h65 h131 i146 h147)))⟩,tv⟩,rfl⟩,tv⟩,rfl,rfl⟩) (o60 hp x0 hx0 h9 x56 hx56 h65 h131) (o61 hp x0 hx0 h9 x56 hx56 h65 h131)
   ·refine swp_exit ?_
    refine sQ (kt:=[1,2,16,17,18,5]) (kh:=[0,5001]) (q:=inI ((x0:Int) + 1)/\True/\True) (st':=ASt.mk [(1,iv c),(2,.ptr 0 []),(16,.sl 4 (Hs.things g).length fun (i:Nat)=>cThg (thg g i)),(17,iv (↑((Hs.things g).length):Int)),(18,iv ((x0:Int) + 1)),(5,.ptr 5001 [])] [(0,.cells 80 (cHs g)),(5001,.cells 134 (cHo g c (wS (tS g c x0) x0 (mS g c x0 x56)) (wS (tB g c x0) x0 (mB g c x0 x56))))] 30416) ⟨(o62 hp x0 hx0 h9 x56 hx56 h65),tv,tv⟩ ?_
    exact loop_next (z104_2 g c) x0 (eQ hE [] [(0,.same 0),(5000,.same 5001)] [1,16,17] [0] (((zT (iv c))/\(zP 0)/\(zT (AV.sl 4 (Hs.things g).length fun (i:Nat)=>cThg (thg g i)))/\(zT (iv (↑((Hs.things g).length):Int)))/\(zN (iv ((x0:Int) + 1)) (iv (↑(x0 + 1):Int)))/\(zP 5001)/\True)/\((zT (OB.cells 80 (cHs g)))/\(134=134/\((4=4/\(Hs.things g).length=(Hs.things g).length /\ ∀ (i148:Nat),i148 < (Hs.things g).length->cThg (thg g i148)=cThg (thg g i148))/\(3=3/\(Hs.marks g).length=(Hs.marks g).length /\ ∀ (i150:Nat),i150 < (Hs.marks g).length->cMrk ((Hs.marks g).getD i150 default)=cMrk ((Hs.marks g).getD i150 default))/\(zM (iv c))/\(1=1/\8=8 /\ ∀ (i152:Nat),i152 < 8 -> [iv (wS (tS g c x0) x0 (mS g c x0 x56) i152)] = [iv (tS g c (x0 + 1) i152)])/\(1=1/\8=8 /\ ∀ (i154:Nat),i154 < 8 -> [iv (wS (tB g c x0) x0 (mB g c x0 x56) i154)] = [iv (tB g c (x0 + 1) i154)])/\True)/\true=true)/\True)/\T2) ⟨⟨⟨rfl,rfl⟩,⟨rfl,rfl⟩,⟨rfl,rfl⟩,⟨rfl,rfl⟩,⟨(congrArg iv (o63 hp x0 hx0 h9 x56 hx56 h65)),rfl⟩,⟨rfl,rfl⟩,tv⟩,⟨⟨rfl,rfl⟩,⟨rfl,⟨⟨rfl,rfl,(fun i148=>(fun h149=>rfl))⟩,⟨rfl,rfl,(fun i150=>(fun h151=>rfl))⟩,⟨rfl,rfl⟩,⟨rfl,rfl,(fun i152=>(fun h153=>(o64 hp x0 hx0 h9 x56 hx56 h65 i152 h153)))⟩,⟨rfl,rfl,(fun i154=>(fun h155=>(o65 hp x0 hx0 h9 x56 hx56 h65 i154 h155)))⟩,tv⟩,rfl⟩,tv⟩,rfl,rfl⟩) (o66 hp x0 hx0 h9 x56 hx56 h65) (o67 hp x0 hx0 h9 x56 hx56 h65)
  ·refine swp_cond (bif !decide (Thg.off (thg g x0) = -1) then decide (wS (tS g c x0) x0 100 (Thg.off (thg g x0)).toNat<=Thg.at_ (thg g x0)) else false) (by kernel_rfl) (fun h39 => ?_) (fun h39 => ?_)
   ·refine sQ (kt:=[1,2,16,17,18,5,6]) (kh:=[0,5000]) (q:=True/\True/\True/\True/\True/\True/\True/\True/\True/\True/\True/\(0<=Thg.off (thg g x0)/\Thg.off (thg g x0) < (↑8:Int))/\((Thg.off (thg g x0)).toNat < 8/\True)/\True/\True/\(0<=(x0:Int)/\(x0:Int) < (↑8:Int))/\(x0 < 8/\True)/\True/\True/\(0<=(x0:Int)/\(x0:Int) < (↑8:Int))/\(x0 < 8/\True)/\True) (st':=ASt.mk [(1,iv c),(2,.ptr 0 []),(16,.sl 4 (Hs.things g).length fun (i:Nat)=>cThg (thg g i)),(17,iv (↑((Hs.things g).length):Int)),(18,iv (x0:Int)),(5,.ptr 5000 []),(6,iv (x0:Int))] [(0,.cells 80 (cHs g)),(5000,.cells 134 [.sl 4 (Hs.things g).length fun (i:Nat)=>cThg (thg g i),aMrks (Hs.marks g),iv c,.arr 1 8 fun (j:Nat)=>Decidable.rec (fun (h:¬j=x0)=>[iv (wS (tS g c x0) x0 100 j)]) (fun (h:j=x0)=>[iv (Thg.at_ (thg g x0))] ++ []) (instDecidableEqNat j x0),.arr 1 8 fun (j:Nat)=>Decidable.rec (fun (h:¬j=x0)=>[iv (wS (tB g c x0) x0 (-1) j)]) (fun (h:j=x0)=>[iv (wS (tB g c x0) x0 (-1) (Thg.off (thg g x0)).toNat)] ++ []) (instDecidableEqNat j x0)])] 10528) ⟨tv,tv,tv,tv,tv,tv,tv,tv,tv,tv,tv,⟨(o17 hp x0 hx0 h9 h39),(o18 hp x0 hx0 h9 h39)⟩,⟨(o19 hp x0 hx0 h9 h39),tv⟩,tv,tv,⟨(o20 hp x0 hx0 h9 h39),(o21 hp x0 hx0 h9 h39)⟩,⟨(o22 hp x0 hx0 h9 h39),tv⟩,tv,tv,⟨(o23 hp x0 hx0 h9 h39),(o24 hp x0 hx0 h9 h39)⟩,⟨(o25 hp x0 hx0 h9 h39),tv⟩,tv⟩ ?_
    exact join_end (ent_q hE [] [(0,.same 0),(5000,.same 5000)] [1,16,17,18,6] [0] (((iv c=iv c/\true=true)/\(some (Src.same 0)=some (Src.same 0)/\nilP = [])/\(((AV.sl 4 (Hs.things g).length fun (i:Nat)=>cThg (thg g i))=AV.sl 4 (Hs.things g).length fun (i:Nat)=>cThg (thg g i))/\true=true)/\(iv (↑((Hs.things g).length):Int)=iv (↑((Hs.things g).length):Int)/\true=true)/\(iv (x0:Int)=iv (x0:Int)/\true=true)/\(some (Src.same 5000)=some (Src.same 5000)/\nilP = [])/\(iv (x0:Int)=iv (x0:Int)/\true=true)/\True)/\((134=134/\((4=4/\(Hs.things g).length=(Hs.things g).length /\ ∀ (i40:Nat),i40 < (Hs.things g).length->cThg (thg g i40)=cThg (thg g i40))/\(3=3/\(Hs.marks g).length=(Hs.marks g).length /\ ∀ (i42:Nat),i42 < (Hs.marks g).length->cMrk ((Hs.marks g).getD i42 default)=cMrk ((Hs.marks g).getD i42 default))/\(iv c=iv c/\nilN = [])/\(1=1/\8=8 /\ ∀ (i44:Nat),i44 < 8->Decidable.rec (fun (h:¬i44=x0)=>[iv (wS (tS g c x0) x0 100 i44)]) (fun (h:i44=x0)=>[iv (Thg.at_ (thg g x0))] ++ []) (instDecidableEqNat i44 x0) = [iv (wS (tS g c x0) x0 (mS g c x0 0) i44)])/\(1=1/\8=8 /\ ∀ (i46:Nat),i46 < 8->Decidable.rec (fun (h:¬i46=x0)=>[iv (wS (tB g c x0) x0 (-1) i46)]) (fun (h:i46=x0)=>[iv (wS (tB g c x0) x0 (-1) (Thg.off (thg g x0)).toNat)] ++ []) (instDecidableEqNat i46 x0) = [iv (wS (tB g c x0) x0 (mB g c x0 0) i46)])/\True)/\true=true)/\(OB.cells 80 (cHs g)=OB.cells 80 (cHs g)/\true=true)/\True)/\T2) (by kernel_rfl) (by kernel_rfl) ⟨⟨⟨rfl,rfl⟩,⟨rfl,rfl⟩,⟨rfl,rfl⟩,⟨rfl,rfl⟩,⟨rfl,rfl⟩,⟨rfl,rfl⟩,⟨rfl,rfl⟩,tv⟩,⟨⟨rfl,⟨⟨rfl,rfl,(fun i40=>(fun h41=>rfl))⟩,⟨rfl,rfl,(fun i42=>(fun h43=>rfl))⟩,⟨rfl,rfl⟩,⟨rfl,rfl,(fun i44=>(fun h45=>(o26 hp x0 hx0 h9 h39 i44 h45)))⟩,⟨rfl,rfl,(fun i46=>(fun h47=>(o27 hp x0 hx0 h9 h39 i46 h47)))⟩,tv⟩,rfl⟩,⟨rfl,rfl⟩,tv⟩,rfl,rfl⟩)
   ·refine swp_skip ?_
    exact join_end (ent_q hE [] [(0,.same 0),(5000,.same 5000)] [1,16,17,18,6] [0] (((iv c=iv c/\true=true)/\(some (Src.same 0)=some (Src.same 0)/\nilP = [])/\(((AV.sl 4 (Hs.things g).length fun (i:Nat)=>cThg (thg g i))=AV.sl 4 (Hs.things g).length fun (i:Nat)=>cThg (thg g i))/\true=true)/\(iv (↑((Hs.things g).length):Int)=iv (↑((Hs.things g).length):Int)/\true=true)/\(iv (x0:Int)=iv (x0:Int)/\true=true)/\(some (Src.same 5000)=some (Src.same 5000)/\nilP = [])/\(iv (x0:Int)=iv (x0:Int)/\true=true)/\True)/\((134=134/\((4=4/\(Hs.things g).length=(Hs.things g).length /\ ∀ (i48:Nat),i48 < (Hs.things g).length->cThg (thg g i48)=cThg (thg g i48))/\(3=3/\(Hs.marks g).length=(Hs.marks g).length /\ ∀ (i50:Nat),i50 < (Hs.marks g).length->cMrk ((Hs.marks g).getD i50 default)=cMrk ((Hs.marks g).getD i50 default))/\(iv c=iv c/\nilN = [])/\(1=1/\8=8 /\ ∀ (i52:Nat),i52 < 8 -> [iv (wS (tS g c x0) x0 100 i52)] = [iv (wS (tS g c x0) x0 (mS g c x0 0) i52)])/\(1=1/\8=8 /\ ∀ (i54:Nat),i54 < 8 -> [iv (wS (tB g c x0) x0 (-1) i54)] = [iv (wS (tB g c x0) x0 (mB g c x0 0) i54)])/\True)/\true=true)/\(OB.cells 80 (cHs g)=OB.cells 80 (cHs g)/\true=true)/\True)/\T2) (by kernel_rfl) (by kernel_rfl) ⟨⟨⟨rfl,rfl⟩,⟨rfl,rfl⟩,⟨rfl,rfl⟩,⟨rfl,rfl⟩,⟨rfl,rfl⟩,⟨rfl,rfl⟩,⟨rfl,rfl⟩,tv⟩,⟨⟨rfl,⟨⟨rfl,rfl,(fun i48=>(fun h49=>rfl))⟩,⟨rfl,rfl,(fun i50=>(fun h51=>rfl))⟩,⟨rfl,rfl⟩,⟨rfl,rfl,(fun i52=>(fun h53=>(o28 hp x0 hx0 h9 h39 i52 h53)))⟩,⟨rfl,rfl,(fun i54=>(fun h55=>(o29 hp x0 hx0 h9 h39 i54 h55)))⟩,tv⟩,rfl⟩,⟨rfl,rfl⟩,tv⟩,rfl,rfl⟩)
 ·refine swp_exit (swp_seq ?_)
  refine swp_ent (ent_fz 5000 134 (cHo g c (tS g c x0) (tB g c x0)) (ASt.mk [(1,iv c),(2,AV.ptr 0 []),(16,AV.sl 4 (Hs.things g).length fun (i:Nat)=>cThg (thg g i)),(17,iv (↑((Hs.things g).length):Int)),(18,iv (x0:Int)),(5,AV.rp (cHo g c (tS g c x0) (tB g c x0))),(19,bv (decide ((x0:Int) < (↑((Hs.things g).length):Int))))] [(0,OB.cells 80 (cHs g))] 10096) (by kernel_rfl) (by kernel_rfl) (by kernel_rfl)) ?_
  refine sQ (kt:=[4]) (kh:=[]) (q:=tn 2) (st':=ASt.mk [(4,.rp (cHo g c (tS g c x0) (tB g c x0)))] [] 10112) (tp 2) ?_
  refine swp_ret ?_
  exact rQ [] ((True/\True)/\(zN (AV.rp (cHo g c (tS g c x0) (tB g c x0))) (AV.rp (cHo g c (tS g c (Hs.things g).length) (tB g c (Hs.things g).length))))/\T3) ⟨⟨tv,tv⟩,⟨(o68 hp x0 hx0 h9),rfl⟩,rfl,rfl,rfl⟩
theorem rec7 {α:Type} {i j:Nat} {a:¬ i=j->α} {b:i=j->α} {c:α} (h1:∀ h,a h=c) (h2:∀ h,b h=c):(Decidable.rec a b (instDecidableEqNat i j):α)=c:=by
 cases instDecidableEqNat i j with
 | isTrue h=>exact h2 h
 | isFalse h=>exact h1 h
theorem wS_at (f:Nat->Int) (i:Nat) (v:Int):wS f i v i=v:=if_pos rfl
theorem wS_ne (f:Nat->Int) {i j:Nat} (v:Int) (h:j ≠ i):wS f i v j=f j:=if_neg h
theorem rec_wS {f:Nat->Int} {i j:Nat} {v v':Int}:(Decidable.rec (fun _=>[iv (wS f i v j)]) (fun _=>[iv v'] ++ []) (instDecidableEqNat j i):List AV) = [iv (wS f i v' j)]:=rec7 (fun h=>by rw [wS_ne _ _ h,wS_ne _ _ h]) (fun h=>by rw [h,wS_at]; rfl)
theorem rec_w {f:Nat->Int} {i j:Nat} {v':Int}:(Decidable.rec (fun _=>[iv (f j)]) (fun _=>[iv v'] ++ []) (instDecidableEqNat j i):List AV) = [iv (wS f i v' j)]:=rec7 (fun h=>by rw [wS_ne _ _ h]) (fun h=>by rw [h,wS_at]; rfl)
theorem m_zero (g:Hs) (c:Int) (x:Nat):mS g c x 0=(base7 g x (tab7 g c x)).1/\mB g c x 0=(base7 g x (tab7 g c x)).2:=⟨rfl,rfl⟩
theorem base_b {g:Hs} {c:Int} {x:Nat} (hx:x < g.things.length) (hok:okH g=true):(bif !decide ((thg g x).off = -1) then decide (wS (tS g c x) x 100 (thg g x).off.toNat<=(thg g x).at_) else false)=baseB g x (tab7 g c x):=by
 have:=(okT_facts ((okH_iff.1 hok).2.2.1 x hx)).1
 unfold baseB
 by_cases e:(thg g x).off = -1
 ·rw [decide_eq_true e]; rfl
 ·rw [wS_ne _ _ (by omega)]; rw [decide_eq_false e]; rfl
theorem mark_b (g:Hs) (c:Int) (x n:Nat):(bif bif decide ((g.marks.getD n default).th=(x:Int)) then decide ((g.marks.getD n default).ch=c) else false then bif decide ((g.marks.getD n default).at_ < wS (tS g c x) x (mS g c x n) x) then true else bif decide ((g.marks.getD n default).at_=wS (tS g c x) x (mS g c x n) x) then !markedB g (wS (tB g c x) x (mB g c x n)) x else false else false)=markB g c x (markTo g c x (tab7 g c x) n) n:=by
 rw [wS_at]
 unfold markedB markB
 rw [wS_at]
 generalize decide ((g.marks.getD n default).th=(x:Int))=a1
 unfold mS mB
 cases a1 <;> cases decide ((g.marks.getD n default).ch=c) <;> cases decide ((g.marks.getD n default).at_ < (markTo g c x (tab7 g c x) n).1) <;> cases decide ((g.marks.getD n default).at_=(markTo g c x (tab7 g c x) n).1) <;> rfl
theorem ts_succ (g:Hs) (c:Int) (x j:Nat):(tab7 g c (x + 1)).getD j (0,0)=if j=x then markTo g c x (tab7 g c x) g.marks.length else (tab7 g c x).getD j (0,0):=by
 rw [tab7,Go.Ab.getD_append,tab7_len]
 by_cases h:j < x
 ·rw [if_pos h,if_neg (by omega)]
 ·rw [if_neg h]
  by_cases e:j=x
  ·rw [if_pos e,e,Nat.sub_self]; rfl
  ·rw [if_neg e,Go.Ab.getD_ge (tab7 g c x) _ (by rw [tab7_len]; omega),Go.Ab.getD_ge _ _ (by show 1<=_; omega)]
theorem tS_succ (g:Hs) (c:Int) (x j:Nat):tS g c (x + 1) j=wS (tS g c x) x (mS g c x g.marks.length) j:=by
 unfold tS wS; rw [ts_succ]; split <;> rfl
theorem tB_succ (g:Hs) (c:Int) (x j:Nat):tB g c (x + 1) j=wS (tB g c x) x (mB g c x g.marks.length) j:=by
 unfold tB wS; rw [ts_succ]; split <;> rfl
theorem markTo_B {g:Hs} {c:Int} {x:Nat} {tab:List (Int × Int)} (h:(base7 g x tab).2 < g.marks.length):∀ n,n<=g.marks.length->(markTo g c x tab n).2 < g.marks.length:=by
 intro n
 induction n with
 | zero=>intro _; exact h
 | succ n ih =>
  intro hn
  rw [markTo_succ,markStep]
  split
  ·show (n:Int) < _; omega
  ·exact ih (by omega)
theorem base_B {g:Hs} {x:Nat} {tab:List (Int × Int)} (hx:x < g.things.length) (hok:okH g=true) (h:∀ j,j < x->(tab.getD j (0,0)).2 < g.marks.length):(base7 g x tab).2 < g.marks.length:=by
 have:=(okT_facts ((okH_iff.1 hok).2.2.1 x hx)).1
 rw [base7]
 split
 ·rename_i e
  simp only [baseB,Bool.and_eq_true,Bool.not_eq_true',decide_eq_false_iff_not] at e
  exact h _ (by omega)
 ·show (-1:Int) < _; omega
theorem tab_B {g:Hs} {c:Int} (hok:okH g=true):∀ n,n<=g.things.length -> ∀ j,j < n->((tab7 g c n).getD j (0,0)).2 < g.marks.length:=by
 intro n
 induction n with
 | zero=>intro _ j hj; omega
 | succ n ih =>
  intro hn j hj
  rw [ts_succ]
  split
  ·exact markTo_B (base_B (by omega) hok (fun j hj=>ih (by omega) j hj)) _ (Nat.le_refl _)
  ·exact ih (by omega) j (by omega)
theorem mB_lt {g:Hs} {c:Int} {x n:Nat} (hok:okH g=true) (hx:x < g.things.length) (hn:n<=g.marks.length):mB g c x n < g.marks.length:=markTo_B (base_B hx hok (fun j hj=>tab_B hok x (by omega) j hj)) n hn
theorem t104 (g:Hs) (c:Int):Triple Try.prog 104 (s104 g c):=by
  apply w104
  all_goals (first | ((repeat intro _) <;> (try simp only [v0,v1,v2,v3,v4,v5,v6,v7,v8,v9,inI,fits,Go.Sh.small] at *) <;> first | (exact rfl) | omega | exact vz | (simp_all; done) | (simp_all; omega)) | skip)
  all_goals (intro hok; obtain ⟨l1,l2,hT,hM⟩:=okH_iff.1 hok; intro x hx hl; simp only [decide_eq_true_eq,decide_eq_false_iff_not] at hl)
  case o12 | o13=>intro i hi; exact rec_w
  case o68 =>
    have e:x=g.things.length:=by omega
    rw [e]
  all_goals (have hxl:x < g.things.length:=(by omega); obtain ⟨f1,f2,f3,f4,f5⟩:=okT_facts (hT x hxl))
  case o7 | o8 | o10 | o11=>omega
  case o14 | o15 | o16=>intro hh; simp only [Bool.not_eq_true',decide_eq_false_iff_not] at hh; omega
  case o17 | o18 | o19=>intro hh; simp only [Bool.cond_false_right,Bool.and_eq_true,Bool.not_eq_true',decide_eq_false_iff_not] at hh; omega
  case o21 | o22 | o24 | o25=>intro _; omega
  case o26 =>
    intro hh i hi
    rw [base_b hxl hok] at hh
    have:mS g c x 0=(thg g x).at_:=by rw [(m_zero g c x).1,base7,if_pos hh]
    rw [this]; exact rec_wS
  case o27 =>
    intro hh i hi
    have hne:(thg g x).off ≠ -1:=by simp only [Bool.cond_false_right,Bool.and_eq_true,Bool.not_eq_true',decide_eq_false_iff_not] at hh; exact hh.1
    rw [base_b hxl hok] at hh
    have:mB g c x 0=wS (tB g c x) x (-1) (thg g x).off.toNat:=by rw [(m_zero g c x).2,base7,if_pos hh,wS_ne _ _ (by omega)]; rfl
    rw [this]; exact rec_wS
  case o28 =>
    intro hh i hi
    rw [base_b hxl hok] at hh
    have:mS g c x 0=100:=by rw [(m_zero g c x).1,base7,hh]; rfl
    rw [this]
  case o29 =>
    intro hh i hi
    rw [base_b hxl hok] at hh
    have:mB g c x 0 = -1:=by rw [(m_zero g c x).2,base7,hh]; rfl
    rw [this]
  all_goals (intro y hy hyl; simp only [decide_eq_true_eq,decide_eq_false_iff_not] at hyl)
  case o62=>exact ⟨by omega,by omega⟩
  case o64 => intro i hi; have e : y = g.marks.length := by omega
              rw [e,tS_succ]
  case o65 => intro i hi; have e : y = g.marks.length := by omega
              rw [e,tB_succ]
  all_goals (intro hh)
  case o41=>rw [wS_at]; exact mB_lt hok hxl hy
  case o50 | o56=>exact ⟨by omega,by omega⟩
  case o52 =>
    intro i hi
    rw [mark_b] at hh
    have:mS g c x (y + 1)=(g.marks.getD y default).at_:=by unfold mS; rw [markTo_succ,markStep,if_pos hh]
    rw [this]; exact rec_wS
  case o53 =>
    intro i hi
    rw [mark_b] at hh
    have:mB g c x (y + 1)=(y:Int):=by unfold mB; rw [markTo_succ,markStep,if_pos hh]
    rw [this]; exact rec_wS
  case o58 =>
    intro i hi
    rw [mark_b] at hh
    have:mS g c x (y + 1)=mS g c x y:=by unfold mS; rw [markTo_succ,markStep,hh]; rfl
    rw [this]
  case o59 =>
    intro i hi
    rw [mark_b] at hh
    have:mB g c x (y + 1)=mB g c x y:=by unfold mB; rw [markTo_succ,markStep,hh]; rfl
    rw [this]
  all_goals omega
end Go.Ab
namespace Go.Sh
def hasB (S:Nat->Int) (m n:Int):Bool:=decide (S n.toNat<=m)
def mixedB (S:Nat->Int) (l:List Int) (m:Int):Bool:=l.any (hasB S m) && l.any (fun n => !hasB S m n)
def sinceV (h:Hs) (c:Int) (i:Nat):Int:=tS h c h.things.length i
def sinceR (h:Hs) (c:Int) (i:Nat):Int:=if sinceV h c i=100 then 0 else sinceV h c i
def sinceE (h:Hs) (c:Int) (i:Nat):Int:=if sinceV h c i=100 then 3 else 0
def mixTo (h:Hs) (l:List Int) (m:Int):Nat->List Int
 | 0=>[]
 | n + 1=>if mixedB (sinceV h (n:Int)) l m then mixTo h l m n ++ [(n:Int)] else mixTo h l m n
def mixed7 (h:Hs) (l:List Int) (m:Int):List Int:=mixTo h l m 3
end Go.Sh
namespace Go.Ab
open Go Go.RowKit Go.Proofs Go.Sh Go.En
def s133 (g:Hs) (c:Int) (S B:Nat->Int) (n m:Int):CallSpec:={ args:=[.rp (cHo g c S B),iv n,iv m],res:=bv (hasB S m n),pre:=0<=n/\n < 8 }
def s132 (n:Int) (g:Hs) (c:Int) (S B:Nat->Int) (m:Int):CallSpec:={ args:=[iv n,.rp [.rp (cHo g c S B)],.rp [iv m]],res:=bv (hasB S m n),pre:=0<=n/\n < 8 }
def s134 (n:Int) (g:Hs) (c:Int) (S B:Nat->Int) (m:Int):CallSpec:={ args:=[iv n,.rp [.clo 132 [.rp [.rp (cHo g c S B)],.rp [iv m]]]],res:=bv (!hasB S m n),pre:=0<=n/\n < 8 }
def s107 (g:Hs) (c:Int) (S B:Nat->Int) (l:List Int) (m:Int):CallSpec:={ args:=[.rp (cHo g c S B),aInts l,iv m],res:=bv (mixedB S l m),pre:=l.length<=1125899906842624 /\ ∀ n,n ∈ l->0<=n/\n < 8 }
def c107a (g:Hs) (c:Int) (S B:Nat->Int) (l:List Int) (m:Int):CallSpec:=s113 l (hasB S m)
def c107b (g:Hs) (c:Int) (S B:Nat->Int) (l:List Int) (m:Int):CallSpec:=s113 l (fun n => !hasB S m n)
def s61 (g:Hs) (i c:Int):CallSpec:={ args:=[vHs g,iv i,iv c],res := .tup [iv (sinceR g c i.toNat),iv (sinceE g c i.toNat)],pre:=okH g=true/\(0<=i/\i < g.things.length)/\within c 0 2=true }
def s64 (g:Hs) (l:List Int) (m:Int):CallSpec:={ args:=[vHs g,aInts l,iv m],res := .tup [aInts (mixed7 g l m),iv 0],pre:=okH g=true/\plates7 g l m=true/\within m 0 99=true/\l.length<=1125899906842624 }
def h64a (g:Hs) (l:List Int) (m:Int):Hint:={ X:=Nat,M:=fun i=>[(18,iv i),(8,bv true)],I:=fun i=>i<=l.length,mu:=fun i=>l.length - i,x0:=(0:Nat),nx:=fun i=>i + 1 }
def h64b (g:Hs) (l:List Int) (m:Int):Hint:={ X:=Nat,M:=fun i=>[(68,iv i),(12,.vec 5000)],H:=fun i=>[(5000,.vec 3 1 (mixTo g l m i).length (fun k=>[iv ((mixTo g l m i).getD k 0)]))],I:=fun i=>i<=3,mu:=fun i=>3 - i,x0:=(0:Nat),nx:=fun i=>i + 1 }
end Go.Ab
