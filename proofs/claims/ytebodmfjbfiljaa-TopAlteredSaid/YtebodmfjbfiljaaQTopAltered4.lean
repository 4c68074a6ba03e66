/- Part 4 of the proof: own library, plain forms and walks. -/
import Derived.Test.YtebodmfjbfiljaaQTopAltered3
set_option linter.all false
set_option linter.deprecated false
namespace Go.Ab
open Go Go.RowKit Go.Proofs Go.Sh Go.En
abbrev q1n (g:Hs) (B:Nat->Int) (i:Nat) (Pq:Prop):Prop:=i < 8/\B i < (↑((Hs.marks g).length):Int)->Pq
theorem w133 (b:Nat) (g:Hs) (c:Int) (S:Nat->Int) (B:Nat->Int) (i:Nat)
 (o0:q1n g B i (0<=(i:Int)))
 (o1:q1n g B i ((i:Int) < (↑8:Int)))
 (o2:q1n g B i (decide (0<=B i)=true->0<=B i))
 (o3:q1n g B i ((bif decide (0<=B i) then decide (Mrk.th ((Hs.marks g).getD (B i).toNat default)=(i:Int)) else false)=markedB g B i)) :
  Triple Try.prog 133 (s133 b g c S B i):=by
 refine triple_ptr Try.func133 rfl Try.call133 T0_ok (b) ([]) ([iv (i:Int)]) (184) (cHo g c S B) (cHo g c S B) (i < 8/\B i < (↑((Hs.marks g).length):Int)) (bv (markedB g B i)) rfl rfl rfl rfl (Nat.le_of_ble_eq_true (by kernel_rfl)) ?_
 intro hpre C hC hE
 obtain ⟨P,w0,E0,av,hA,ro,df⟩:=C
 obtain ⟨rfl,rfl,rfl⟩:=hC
 refine swp_seq ?_
 refine zR [0,1] [0] (Ak 1 tv) ?_
 refine swp_seq ?_
 refine zR [0,1,5] [0] (Ak 4 (An (An (o0 hpre) (o1 hpre)) (An (An hpre.1 tv) (Ak 1 tv)))) ?_
 refine swp_seq ?_
 refine zR [4] [0] (Ak 3 (An (fun (y0:decide (0<=B i)=true)=>(An (Ak 1 tv) tv)) (An (fun (y1:decide (0<=B i)=true)=>(An (An (fun (y2:decide (0<=B i)=true)=>y1) tv) tv)) (An (fun (y3:decide (0<=B i)=true)=>(An (An (fun (y4:decide (0<=B i)=true)=>y3) tv) tv)) (An (fun (y5:decide (0<=B i)=true)=>(An (An (fun (y6:decide (0<=B i)=true)=>y5) tv) tv)) (An (fun (y7:decide (0<=B i)=true)=>(An (An (fun (y8:decide (0<=B i)=true)=>y7) tv) tv)) (An (fun (y9:decide (0<=B i)=true)=>(An (Ak 1 tv) tv)) (An (fun (y10:decide (0<=B i)=true)=>(An (An (fun (y11:decide (0<=B i)=true)=>y10) (An (fun (y12:decide (0<=B i)=true)=>y10) tv)) (An (o2 hpre y10) hpre.2))) (An (fun (y13:decide (0<=B i)=true)=>(An (An (fun (y14:decide (0<=B i)=true)=>y13) tv) tv)) (An (fun (y15:decide (0<=B i)=true)=>(An (An (fun (y16:decide (0<=B i)=true)=>y15) tv) tv)) (An (fun (y17:decide (0<=B i)=true)=>(An (Ak 1 tv) tv)) (An (fun (y18:decide (0<=B i)=true)=>(An (An (fun (y19:decide (0<=B i)=true)=>y18) (An (fun (y20:decide (0<=B i)=true)=>y18) tv)) tv)) (An (An (fun (y21:decide (0<=B i)=true)=>y21) (fun (y22:decide (0<=B i)=false)=>tv)) (Ak 1 tv)))))))))))))) ?_
 refine swp_ret ?_
 exact zP (cHo g c S B) (An (Ak 1 tv) (An (An (cb (o3 hpre)) (zr nilN)) (An (zr true) (An (zr true) (zr true))))) rfl
theorem t133 (b:Nat) (g:Hs) (c:Int) (S B:Nat->Int) (i:Nat):Triple Try.prog 133 (s133 b g c S B i):=by
 apply w133
 all_goals (try delta q1n)
 all_goals (first | ((repeat intro _) <;> (try simp only [Bool.cond_true_left,Bool.cond_false_right,Bool.not_not,Bool.not_eq_true',Bool.not_eq_false',Bool.or_eq_true,Bool.or_eq_false_iff,Bool.and_eq_true,decide_eq_true_eq,decide_eq_false_iff_not,inI,big] at *) <;> first | (exact rfl) | omega | (exact ⟨Nat.zero_le _,fun j hj=>absurd hj (Nat.not_lt_zero j)⟩) | (simp_all; done) | (simp_all; omega)) | skip)
abbrev q1o (g:Hs) (Pq:Prop):Prop:=okW g=true->Pq
abbrev q1p (g:Hs) (x0:Nat) (Pq:Prop):Prop:=x0<=(Hs.things g).length->Pq
abbrev q1q (g:Hs) (x0:Nat) (Pq:Prop):Prop:=q1p g x0 (decide ((x0:Int) < (↑((Hs.things g).length):Int))=true->Pq)
abbrev q1r (g:Hs) (c:Int) (x0:Nat) (Pq:Prop):Prop:=q1q g x0 ((bif !decide (Thg.off (thg g x0) = -1) then decide (wS (tS g c x0) x0 100 (Thg.off (thg g x0)).toNat<=Thg.at_ (thg g x0)) else false)=true->Pq)
abbrev q1s (g:Hs) (c:Int) (x0:Nat) (Pq:Prop):Prop:=q1q g x0 ((bif !decide (Thg.off (thg g x0) = -1) then decide (wS (tS g c x0) x0 100 (Thg.off (thg g x0)).toNat<=Thg.at_ (thg g x0)) else false)=false->Pq)
abbrev q1t (g:Hs) (x56:Nat) (Pq:Prop):Prop:=x56<=(Hs.marks g).length->Pq
abbrev q1u (g:Hs) (x56:Nat) (Pq:Prop):Prop:=q1t g x56 (decide ((x56:Int) < (↑((Hs.marks g).length):Int))=true->Pq)
abbrev q1v (g:Hs) (c:Int) (x0:Nat) (x56:Nat) (Pq:Prop):Prop:=q1u g x56 ((bif decide (Mrk.th ((Hs.marks g).getD x56 default)=(x0:Int)) then decide (Mrk.ch ((Hs.marks g).getD x56 default)=c) else false)=true->Pq)
abbrev q1w (g:Hs) (c:Int) (x0:Nat) (x56:Nat) (Pq:Prop):Prop:=q1u g x56 (((bif decide (Mrk.th ((Hs.marks g).getD x56 default)=(x0:Int)) then decide (Mrk.ch ((Hs.marks g).getD x56 default)=c) else false) && !decide (Mrk.at_ ((Hs.marks g).getD x56 default) < wS (tS g c x0) x0 (mS g c x0 x56) x0))=true->Pq)
abbrev q1x (g:Hs) (c:Int) (x0:Nat) (x56:Nat) (Pq:Prop):Prop:=q1u g x56 (((bif decide (Mrk.th ((Hs.marks g).getD x56 default)=(x0:Int)) then decide (Mrk.ch ((Hs.marks g).getD x56 default)=c) else false) && !decide (Mrk.at_ ((Hs.marks g).getD x56 default) < wS (tS g c x0) x0 (mS g c x0 x56) x0) && decide (Mrk.at_ ((Hs.marks g).getD x56 default)=wS (tS g c x0) x0 (mS g c x0 x56) x0))=true->Pq)
abbrev q1y (g:Hs) (c:Int) (x0:Nat) (x56:Nat) (Pq:Prop):Prop:=q1u g x56 ((bif bif decide (Mrk.th ((Hs.marks g).getD x56 default)=(x0:Int)) then decide (Mrk.ch ((Hs.marks g).getD x56 default)=c) else false then bif decide (Mrk.at_ ((Hs.marks g).getD x56 default) < wS (tS g c x0) x0 (mS g c x0 x56) x0) then true else bif decide (Mrk.at_ ((Hs.marks g).getD x56 default)=wS (tS g c x0) x0 (mS g c x0 x56) x0) then !markedB g (wS (tB g c x0) x0 (mB g c x0 x56)) x0 else false else false)=true->Pq)
abbrev q1z (g:Hs) (c:Int) (x0:Nat) (x56:Nat) (Pq:Prop):Prop:=q1u g x56 ((bif bif decide (Mrk.th ((Hs.marks g).getD x56 default)=(x0:Int)) then decide (Mrk.ch ((Hs.marks g).getD x56 default)=c) else false then bif decide (Mrk.at_ ((Hs.marks g).getD x56 default) < wS (tS g c x0) x0 (mS g c x0 x56) x0) then true else bif decide (Mrk.at_ ((Hs.marks g).getD x56 default)=wS (tS g c x0) x0 (mS g c x0 x56) x0) then !markedB g (wS (tB g c x0) x0 (mB g c x0 x56)) x0 else false else false)=false->Pq)
abbrev q20 (g:Hs) (x56:Nat) (Pq:Prop):Prop:=q1t g x56 (decide ((x56:Int) < (↑((Hs.marks g).length):Int))=false->Pq)
theorem w112 (g:Hs) (c:Int)
 (o0:q1o g (0=(↑0:Int)))
 (o1:q1o g (∀ (i5:Nat),i5 < 8 -> [iv 0] = [iv (tS g c 0 i5)]))
 (o2:q1o g (∀ (i7:Nat),i7 < 8 -> [iv 0] = [iv (tB g c 0 i7)]))
 (o3:q1o g (0<=List.length (Hs.things g)))
 (o4:q1o g (∀ (x0:Nat),q1q g x0 (0<=(x0:Int))))
 (o5:q1o g (∀ (x0:Nat),q1q g x0 ((x0:Int) < (↑((Hs.things g).length):Int))))
 (o6:q1o g (∀ (x0:Nat),q1q g x0 (0<=(x0:Int))))
 (o7:q1o g (∀ (x0:Nat),q1q g x0 ((x0:Int) < (↑8:Int))))
 (o8:q1o g (∀ (x0:Nat),q1q g x0 (x0 < 8)))
 (o9:q1o g (∀ (x0:Nat),q1q g x0 (0<=(x0:Int))))
 (o10:q1o g (∀ (x0:Nat),q1q g x0 ((x0:Int) < (↑8:Int))))
 (o11:q1o g (∀ (x0:Nat),q1q g x0 (x0 < 8)))
 (o12:q1o g (∀ (x0:Nat),q1q g x0 (∀ (i14:Nat),i14 < 8->Decidable.rec (fun (h:¬i14=x0)=>[iv (tS g c x0 i14)]) (fun (h:i14=x0)=>[iv 100] ++ []) (instDecidableEqNat i14 x0) = [iv (wS (tS g c x0) x0 100 i14)])))
 (o13:q1o g (∀ (x0:Nat),q1q g x0 (∀ (i16:Nat),i16 < 8->Decidable.rec (fun (h:¬i16=x0)=>[iv (tB g c x0 i16)]) (fun (h:i16=x0)=>[iv (-1)] ++ []) (instDecidableEqNat i16 x0) = [iv (wS (tB g c x0) x0 (-1) i16)])))
 (o14:q1o g (∀ (x0:Nat),q1q g x0 ((!decide (Thg.off (thg g x0) = -1))=true->0<=Thg.off (thg g x0))))
 (o15:q1o g (∀ (x0:Nat),q1q g x0 ((!decide (Thg.off (thg g x0) = -1))=true->Thg.off (thg g x0) < (↑8:Int))))
 (o16:q1o g (∀ (x0:Nat),q1q g x0 ((!decide (Thg.off (thg g x0) = -1))=true->(Thg.off (thg g x0)).toNat < 8)))
 (o17:q1o g (∀ (x0:Nat),q1r g c x0 (0<=Thg.off (thg g x0))))
 (o18:q1o g (∀ (x0:Nat),q1r g c x0 (Thg.off (thg g x0) < (↑8:Int))))
 (o19:q1o g (∀ (x0:Nat),q1r g c x0 ((Thg.off (thg g x0)).toNat < 8)))
 (o20:q1o g (∀ (x0:Nat),q1r g c x0 (0<=(x0:Int))))
 (o21:q1o g (∀ (x0:Nat),q1r g c x0 ((x0:Int) < (↑8:Int))))
 (o22:q1o g (∀ (x0:Nat),q1r g c x0 (x0 < 8)))
 (o23:q1o g (∀ (x0:Nat),q1r g c x0 (0<=(x0:Int))))
 (o24:q1o g (∀ (x0:Nat),q1r g c x0 ((x0:Int) < (↑8:Int))))
 (o25:q1o g (∀ (x0:Nat),q1r g c x0 (x0 < 8)))
 (o26:q1o g (∀ (x0:Nat),q1r g c x0 (∀ (i44:Nat),i44 < 8->Decidable.rec (fun (h:¬i44=x0)=>[iv (wS (tS g c x0) x0 100 i44)]) (fun (h:i44=x0)=>[iv (Thg.at_ (thg g x0))] ++ []) (instDecidableEqNat i44 x0) = [iv (wS (tS g c x0) x0 (mS g c x0 0) i44)])))
 (o27:q1o g (∀ (x0:Nat),q1r g c x0 (∀ (i46:Nat),i46 < 8->Decidable.rec (fun (h:¬i46=x0)=>[iv (wS (tB g c x0) x0 (-1) i46)]) (fun (h:i46=x0)=>[iv (wS (tB g c x0) x0 (-1) (Thg.off (thg g x0)).toNat)] ++ []) (instDecidableEqNat i46 x0) = [iv (wS (tB g c x0) x0 (mB g c x0 0) i46)])))
 (o28:q1o g (∀ (x0:Nat),q1s g c x0 (∀ (i52:Nat),i52 < 8 -> [iv (wS (tS g c x0) x0 100 i52)] = [iv (wS (tS g c x0) x0 (mS g c x0 0) i52)])))
 (o29:q1o g (∀ (x0:Nat),q1s g c x0 (∀ (i54:Nat),i54 < 8 -> [iv (wS (tB g c x0) x0 (-1) i54)] = [iv (wS (tB g c x0) x0 (mB g c x0 0) i54)])))
 (o30:q1o g (∀ (x0:Nat),q1q g x0 (0=(↑0:Int))))
 (o31:q1o g (∀ (x0:Nat),q1q g x0 (0<=(Hs.marks g).length)))
 (o32:q1o g (∀ (x0:Nat),q1q g x0 (∀ (x56:Nat),q1u g x56 (0<=(x56:Int)))))
 (o33:q1o g (∀ (x0:Nat),q1q g x0 (∀ (x56:Nat),q1u g x56 ((x56:Int) < (↑((Hs.marks g).length):Int)))))
 (o34:q1o g (∀ (x0:Nat),q1q g x0 (∀ (x56:Nat),q1v g c x0 x56 (0<=(x0:Int)))))
 (o35:q1o g (∀ (x0:Nat),q1q g x0 (∀ (x56:Nat),q1v g c x0 x56 ((x0:Int) < (↑8:Int)))))
 (o36:q1o g (∀ (x0:Nat),q1q g x0 (∀ (x56:Nat),q1v g c x0 x56 (x0 < 8))))
 (o37:q1o g (∀ (x0:Nat),q1q g x0 (∀ (x56:Nat),q1w g c x0 x56 (0<=(x0:Int)))))
 (o38:q1o g (∀ (x0:Nat),q1q g x0 (∀ (x56:Nat),q1w g c x0 x56 ((x0:Int) < (↑8:Int)))))
 (o39:q1o g (∀ (x0:Nat),q1q g x0 (∀ (x56:Nat),q1w g c x0 x56 (x0 < 8))))
 (o40:q1o g (∀ (x0:Nat),q1q g x0 (∀ (x56:Nat),q1x g c x0 x56 (x0 < 8))))
 (o41:q1o g (∀ (x0:Nat),q1q g x0 (∀ (x56:Nat),q1x g c x0 x56 (wS (tB g c x0) x0 (mB g c x0 x56) x0 < (↑((Hs.marks g).length):Int)))))
 (o42:q1o g (∀ (x0:Nat),q1q g x0 (∀ (x56:Nat),q1w g c x0 x56 (decide (Mrk.at_ ((Hs.marks g).getD x56 default)=wS (tS g c x0) x0 (mS g c x0 x56) x0)=true->((bif decide (Mrk.th ((Hs.marks g).getD x56 default)=(x0:Int)) then decide (Mrk.ch ((Hs.marks g).getD x56 default)=c) else false) && !decide (Mrk.at_ ((Hs.marks g).getD x56 default) < wS (tS g c x0) x0 (mS g c x0 x56) x0) && decide (Mrk.at_ ((Hs.marks g).getD x56 default)=wS (tS g c x0) x0 (mS g c x0 x56) x0))=true))))
 (o43:q1o g (∀ (x0:Nat),q1q g x0 (∀ (x56:Nat),q1v g c x0 x56 (decide (Mrk.at_ ((Hs.marks g).getD x56 default) < wS (tS g c x0) x0 (mS g c x0 x56) x0)=false->((bif decide (Mrk.th ((Hs.marks g).getD x56 default)=(x0:Int)) then decide (Mrk.ch ((Hs.marks g).getD x56 default)=c) else false) && !decide (Mrk.at_ ((Hs.marks g).getD x56 default) < wS (tS g c x0) x0 (mS g c x0 x56) x0))=true))))
 (o44:q1o g (∀ (x0:Nat),q1q g x0 (∀ (x56:Nat),q1y g c x0 x56 (0<=(x0:Int)))))
 (o45:q1o g (∀ (x0:Nat),q1q g x0 (∀ (x56:Nat),q1y g c x0 x56 ((x0:Int) < (↑8:Int)))))
 (o46:q1o g (∀ (x0:Nat),q1q g x0 (∀ (x56:Nat),q1y g c x0 x56 (x0 < 8))))
 (o47:q1o g (∀ (x0:Nat),q1q g x0 (∀ (x56:Nat),q1y g c x0 x56 (0<=(x0:Int)))))
 (o48:q1o g (∀ (x0:Nat),q1q g x0 (∀ (x56:Nat),q1y g c x0 x56 ((x0:Int) < (↑8:Int)))))
 (o49:q1o g (∀ (x0:Nat),q1q g x0 (∀ (x56:Nat),q1y g c x0 x56 (x0 < 8))))
 (o50:q1o g (∀ (x0:Nat),q1q g x0 (∀ (x56:Nat),q1y g c x0 x56 (inI ((x56:Int) + 1)))))
 (o51:q1o g (∀ (x0:Nat),q1q g x0 (∀ (x56:Nat),q1y g c x0 x56 ((x56:Int) + 1=(↑(x56 + 1):Int)))))
 (o52:q1o g (∀ (x0:Nat),q1q g x0 (∀ (x56:Nat),q1y g c x0 x56 (∀ (i136:Nat),i136 < 8->Decidable.rec (fun (h:¬i136=x0)=>[iv (wS (tS g c x0) x0 (mS g c x0 x56) i136)]) (fun (h:i136=x0)=>[iv (Mrk.at_ ((Hs.marks g).getD x56 default))] ++ []) (instDecidableEqNat i136 x0) = [iv (wS (tS g c x0) x0 (mS g c x0 (x56 + 1)) i136)]))))
 (o53:q1o g (∀ (x0:Nat),q1q g x0 (∀ (x56:Nat),q1y g c x0 x56 (∀ (i138:Nat),i138 < 8->Decidable.rec (fun (h:¬i138=x0)=>[iv (wS (tB g c x0) x0 (mB g c x0 x56) i138)]) (fun (h:i138=x0)=>[iv (x56:Int)] ++ []) (instDecidableEqNat i138 x0) = [iv (wS (tB g c x0) x0 (mB g c x0 (x56 + 1)) i138)]))))
 (o54:q1o g (∀ (x0:Nat),q1q g x0 (∀ (x56:Nat),q1y g c x0 x56 (x56 + 1<=(Hs.marks g).length))))
 (o55:q1o g (∀ (x0:Nat),q1q g x0 (∀ (x56:Nat),q1y g c x0 x56 ((Hs.marks g).length - (x56 + 1) < (Hs.marks g).length - x56))))
 (o56:q1o g (∀ (x0:Nat),q1q g x0 (∀ (x56:Nat),q1z g c x0 x56 (inI ((x56:Int) + 1)))))
 (o57:q1o g (∀ (x0:Nat),q1q g x0 (∀ (x56:Nat),q1z g c x0 x56 ((x56:Int) + 1=(↑(x56 + 1):Int)))))
 (o58:q1o g (∀ (x0:Nat),q1q g x0 (∀ (x56:Nat),q1z g c x0 x56 (∀ (i144:Nat),i144 < 8 -> [iv (wS (tS g c x0) x0 (mS g c x0 x56) i144)] = [iv (wS (tS g c x0) x0 (mS g c x0 (x56 + 1)) i144)]))))
 (o59:q1o g (∀ (x0:Nat),q1q g x0 (∀ (x56:Nat),q1z g c x0 x56 (∀ (i146:Nat),i146 < 8 -> [iv (wS (tB g c x0) x0 (mB g c x0 x56) i146)] = [iv (wS (tB g c x0) x0 (mB g c x0 (x56 + 1)) i146)]))))
 (o60:q1o g (∀ (x0:Nat),q1q g x0 (∀ (x56:Nat),q1z g c x0 x56 (x56 + 1<=(Hs.marks g).length))))
 (o61:q1o g (∀ (x0:Nat),q1q g x0 (∀ (x56:Nat),q1z g c x0 x56 ((Hs.marks g).length - (x56 + 1) < (Hs.marks g).length - x56))))
 (o62:q1o g (∀ (x0:Nat),q1q g x0 (∀ (x56:Nat),q20 g x56 (inI ((x0:Int) + 1)))))
 (o63:q1o g (∀ (x0:Nat),q1q g x0 (∀ (x56:Nat),q20 g x56 ((x0:Int) + 1=(↑(x0 + 1):Int)))))
 (o64:q1o g (∀ (x0:Nat),q1q g x0 (∀ (x56:Nat),q20 g x56 (∀ (i152:Nat),i152 < 8 -> [iv (wS (tS g c x0) x0 (mS g c x0 x56) i152)] = [iv (tS g c (x0 + 1) i152)]))))
 (o65:q1o g (∀ (x0:Nat),q1q g x0 (∀ (x56:Nat),q20 g x56 (∀ (i154:Nat),i154 < 8 -> [iv (wS (tB g c x0) x0 (mB g c x0 x56) i154)] = [iv (tB g c (x0 + 1) i154)]))))
 (o66:q1o g (∀ (x0:Nat),q1q g x0 (∀ (x56:Nat),q20 g x56 (x0 + 1<=(Hs.things g).length))))
 (o67:q1o g (∀ (x0:Nat),q1q g x0 (∀ (x56:Nat),q20 g x56 ((Hs.things g).length - (x0 + 1) < (Hs.things g).length - x0))))
 (o68:q1o g (∀ (x0:Nat),q1p g x0 (decide ((x0:Int) < (↑((Hs.things g).length):Int))=false->AV.rp (cHo g c (tS g c x0) (tB g c x0))=AV.rp (cHo g c (tS g c (Hs.things g).length) (tB g c (Hs.things g).length))))) :
  Triple Try.prog 112 (s112 g c):=by
 refine triple_of Try.func112 rfl Try.call112 T0_ok _ rfl rfl rfl rfl (Nat.le_of_ble_eq_true (by kernel_rfl)) (fun _ _ _ _ h=>h) ?_
 intro hpre C hC _ hE
 obtain ⟨P,w0,E0,av,hA,ro,df⟩:=C
 obtain ⟨rfl,rfl,rfl⟩:=hC
 refine swp_seq ?_
 refine zR [1,2] [0] (Ak 2 tv) ?_
 refine swp_seq ?_
 refine zR [1,2,5] [0,40] (Ak 5 tv) ?_
 refine swp_seq ?_
 refine swp_seq ?_
 refine zR [1,2,5,16,17,18] [0,40] (Ak 4 tv) ?_
 refine swp_block ?_
 refine zL (Hint.ann (h112a g c) [(1,iv c),(2,AV.ptr 0 []),(16,AV.sl 4 (Hs.things g).length fun (i:Nat)=>cThg (thg g i)),(17,iv (↑((Hs.things g).length):Int))] [(0,OB.cells 25 (cHs g))] 10088) (zE hE [] [(0,.same 0),(5000,.same 40)] [1,16,17] [0] (An (An (An (zr (iv c)) (zr true)) (An (An (zr (some (Src.same 0))) (zr nilP)) (An (An (zr (AV.sl 4 (Hs.things g).length fun (i:Nat)=>cThg (thg g i))) (zr true)) (An (An (zr (iv (↑((Hs.things g).length):Int))) (zr true)) (An (An (ci (o0 hpre)) (zr nilN)) (An (An (zr (some (Src.same 40))) (zr nilP)) tv)))))) (An (An (An (zr (OB.cells 25 (cHs g))) (zr true)) (An (An (zr 184) (An (An (An (zr 4) (An (zr (Hs.things g).length) (fun (i1:Nat)=>(fun (y2:i1 < (Hs.things g).length)=>(zr (cThg (thg g i1))))))) (An (An (zr 3) (An (zr (Hs.marks g).length) (fun (i3:Nat)=>(fun (y4:i3 < (Hs.marks g).length)=>(zr (cMrk ((Hs.marks g).getD i3 default))))))) (An (An (zr (iv c)) (zr nilN)) (An (An (zr 1) (An (zr 8) (fun (i5:Nat)=>(fun (y6:i5 < 8)=>(o1 hpre i5 y6))))) (An (An (zr 1) (An (zr 8) (fun (i7:Nat)=>(fun (y8:i7 < 8)=>(o2 hpre i7 y8))))) tv))))) (zr true))) tv)) (An (zr true) (zr true))))) (o3 hpre) (fun (x0:Nat) hx0 => ?_)
 refine swp_seq ?_
 refine zR [1,2,16,17,18,5,19] [0,5000] (Ak 1 tv) ?_
 refine swp_seq ?_
 refine zI (decide ((x0:Int) < (↑((Hs.things g).length):Int))) (fun y9 => ?_) (fun y9 => ?_)
 ·refine swp_skip ?_
  refine swp_seq ?_
  refine swp_block ?_
  refine swp_seq ?_
  refine zR [1,2,16,17,18,5,7,6] [0,5000,10120] (Ak 1 (An (An (o4 hpre x0 hx0 y9) (o5 hpre x0 hx0 y9)) (Ak 4 tv))) ?_
  refine swp_seq ?_
  refine zR [1,2,16,17,18,5,7,6] [0,5000,10120] (Ak 6 (An (An (o6 hpre x0 hx0 y9) (o7 hpre x0 hx0 y9)) (An (An (o8 hpre x0 hx0 y9) tv) (Ak 2 (An (An (o9 hpre x0 hx0 y9) (o10 hpre x0 hx0 y9)) (An (An (o11 hpre x0 hx0 y9) tv) tv)))))) ?_
  refine swp_seq ?_
  refine swp_seq ?_
  refine swp_ent (zE (st2:=ASt.mk [(1,iv c),(2,AV.ptr 0 []),(16,AV.sl 4 (Hs.things g).length fun (i:Nat)=>cThg (thg g i)),(17,iv (↑((Hs.things g).length):Int)),(18,iv (x0:Int)),(5,AV.ptr 5000 []),(7,AV.ptr 10120 []),(6,iv (x0:Int))] [(5000,OB.cells 184 (cHo g c (wS (tS g c x0) x0 100) (wS (tB g c x0) x0 (-1)))),(0,OB.cells 25 (cHs g)),(10120,OB.cells 43 (cThg (thg g x0)))] 10240) hE [] [(0,.same 0),(5000,.same 5000),(10120,.same 10120)] [1,16,17,18,6] [0,10120] (An (An (An (zr (iv c)) (zr true)) (An (An (zr (some (Src.same 0))) (zr nilP)) (An (An (zr (AV.sl 4 (Hs.things g).length fun (i:Nat)=>cThg (thg g i))) (zr true)) (An (An (zr (iv (↑((Hs.things g).length):Int))) (zr true)) (An (An (zr (iv (x0:Int))) (zr true)) (An (An (zr (some (Src.same 5000))) (zr nilP)) (An (An (zr (some (Src.same 10120))) (zr nilP)) (An (An (zr (iv (x0:Int))) (zr true)) tv)))))))) (An (An (An (zr 184) (An (An (An (zr 4) (An (zr (Hs.things g).length) (fun (i10:Nat)=>(fun (y11:i10 < (Hs.things g).length)=>(zr (cThg (thg g i10))))))) (An (An (zr 3) (An (zr (Hs.marks g).length) (fun (i12:Nat)=>(fun (y13:i12 < (Hs.marks g).length)=>(zr (cMrk ((Hs.marks g).getD i12 default))))))) (An (An (zr (iv c)) (zr nilN)) (An (An (zr 1) (An (zr 8) (fun (i14:Nat)=>(fun (y15:i14 < 8)=>(o12 hpre x0 hx0 y9 i14 y15))))) (An (An (zr 1) (An (zr 8) (fun (i16:Nat)=>(fun (y17:i16 < 8)=>(o13 hpre x0 hx0 y9 i16 y17))))) tv))))) (zr true))) (An (An (zr (OB.cells 25 (cHs g))) (zr true)) (An (An (zr (OB.cells 43 (cThg (thg g x0)))) (zr true)) tv))) (An (zr true) (zr true))))) ?_
  refine zR [1,2,16,17,18,5,7,6,47] [0,5000,10120] (Ak 4 (An (fun (y18:(!decide (Thg.off (thg g x0) = -1))=true)=>(An (Ak 1 tv) tv)) (An (fun (y19:(!decide (Thg.off (thg g x0) = -1))=true)=>(An (Ak 1 tv) tv)) (An (fun (y20:(!decide (Thg.off (thg g x0) = -1))=true)=>(An (An (fun (y21:(!decide (Thg.off (thg g x0) = -1))=true)=>y20) tv) tv)) (An (fun (y22:(!decide (Thg.off (thg g x0) = -1))=true)=>(An (An (fun (y23:(!decide (Thg.off (thg g x0) = -1))=true)=>y22) tv) tv)) (An (fun (y24:(!decide (Thg.off (thg g x0) = -1))=true)=>(An (An (fun (y25:(!decide (Thg.off (thg g x0) = -1))=true)=>y24) tv) tv)) (An (fun (y26:(!decide (Thg.off (thg g x0) = -1))=true)=>(An (An (fun (y27:(!decide (Thg.off (thg g x0) = -1))=true)=>y26) (An (fun (y28:(!decide (Thg.off (thg g x0) = -1))=true)=>y26) tv)) (An (o14 hpre x0 hx0 y9 y26) (o15 hpre x0 hx0 y9 y26)))) (An (fun (y29:(!decide (Thg.off (thg g x0) = -1))=true)=>(An (An (fun (y30:(!decide (Thg.off (thg g x0) = -1))=true)=>y29) tv) (An (o16 hpre x0 hx0 y9 y29) tv))) (An (fun (y31:(!decide (Thg.off (thg g x0) = -1))=true)=>(An (Ak 1 tv) tv)) (An (fun (y32:(!decide (Thg.off (thg g x0) = -1))=true)=>(An (An (fun (y33:(!decide (Thg.off (thg g x0) = -1))=true)=>y32) tv) tv)) (An (fun (y34:(!decide (Thg.off (thg g x0) = -1))=true)=>(An (An (fun (y35:(!decide (Thg.off (thg g x0) = -1))=true)=>y34) (An (fun (y36:(!decide (Thg.off (thg g x0) = -1))=true)=>y34) tv)) tv)) (An (An (fun (y37:(!decide (Thg.off (thg g x0) = -1))=true)=>y37) (fun (y38:(!decide (Thg.off (thg g x0) = -1))=false)=>tv)) tv)))))))))))) ?_
  refine swp_join2 (ASt.mk [(1,iv c),(2,AV.ptr 0 []),(16,AV.sl 4 (Hs.things g).length fun (i:Nat)=>cThg (thg g i)),(17,iv (↑((Hs.things g).length):Int)),(18,iv (x0:Int)),(5,AV.ptr 5000 []),(6,iv (x0:Int))] [(5000,OB.cells 184 (cHo g c (wS (tS g c x0) x0 (mS g c x0 0)) (wS (tB g c x0) x0 (mB g c x0 0)))),(0,OB.cells 25 (cHs g))] 20360) ?_ ?_
  ·refine swp_seq ?_
   refine zR [1,2,16,17,18,5,6,68,69,70] [0,5000] (Ak 4 tv) ?_
   refine swp_block ?_
   refine zL (Hint.ann (h112b g c x0) [(1,iv c),(2,AV.ptr 0 []),(16,AV.sl 4 (Hs.things g).length fun (i:Nat)=>cThg (thg g i)),(17,iv (↑((Hs.things g).length):Int)),(18,iv (x0:Int)),(6,iv (x0:Int)),(68,aMrks (Hs.marks g)),(69,iv (↑((Hs.marks g).length):Int))] [(0,OB.cells 25 (cHs g))] 30392) (zE hE [] [(0,.same 0),(5001,.same 5000)] [1,16,17,18,6,68,69] [0] (An (An (An (zr (iv c)) (zr true)) (An (An (zr (some (Src.same 0))) (zr nilP)) (An (An (zr (AV.sl 4 (Hs.things g).length fun (i:Nat)=>cThg (thg g i))) (zr true)) (An (An (zr (iv (↑((Hs.things g).length):Int))) (zr true)) (An (An (zr (iv (x0:Int))) (zr true)) (An (An (zr (iv (x0:Int))) (zr true)) (An (An (zr (aMrks (Hs.marks g))) (zr true)) (An (An (zr (iv (↑((Hs.marks g).length):Int))) (zr true)) (An (An (ci (o30 hpre x0 hx0 y9)) (zr nilN)) (An (An (zr (some (Src.same 5000))) (zr nilP)) tv)))))))))) (An (An (An (zr (OB.cells 25 (cHs g))) (zr true)) (An (An (zr 184) (An (An (An (zr 4) (An (zr (Hs.things g).length) (fun (i57:Nat)=>(fun (y58:i57 < (Hs.things g).length)=>(zr (cThg (thg g i57))))))) (An (An (zr 3) (An (zr (Hs.marks g).length) (fun (i59:Nat)=>(fun (y60:i59 < (Hs.marks g).length)=>(zr (cMrk ((Hs.marks g).getD i59 default))))))) (An (An (zr (iv c)) (zr nilN)) (An (An (zr 1) (An (zr 8) (fun (i61:Nat)=>(fun (y62:i61 < 8)=>(zr ([iv (wS (tS g c x0) x0 (mS g c x0 0) i61)])))))) (An (An (zr 1) (An (zr 8) (fun (i63:Nat)=>(fun (y64:i63 < 8)=>(zr ([iv (wS (tB g c x0) x0 (mB g c x0 0) i63)])))))) tv))))) (zr true))) tv)) (An (zr true) (zr true))))) (o31 hpre x0 hx0 y9) (fun (x56:Nat) hx56 => ?_)
   refine swp_seq ?_
   refine zR [1,2,16,17,18,6,68,69,70,5,71] [0,5001] (Ak 1 tv) ?_
   refine swp_seq ?_
   refine zI (decide ((x56:Int) < (↑((Hs.marks g).length):Int))) (fun y65 => ?_) (fun y65 => ?_)
   ·refine swp_skip ?_
    refine swp_seq ?_
    refine swp_block ?_
    refine swp_seq ?_
    refine zR [1,2,16,17,18,6,68,69,70,5,9,8] [0,5001,30424] (Ak 1 (An (An (o32 hpre x0 hx0 y9 x56 hx56 y65) (o33 hpre x0 hx0 y9 x56 hx56 y65)) (Ak 4 tv))) ?_
    refine swp_seq ?_
    refine zR [1,2,16,17,18,6,68,69,70,5,9,8,10] [0,5001,30424] (Ak 5 (An (fun (y66:decide (Mrk.th ((Hs.marks g).getD x56 default)=(x0:Int))=true)=>(An (Ak 1 tv) tv)) (An (fun (y67:decide (Mrk.th ((Hs.marks g).getD x56 default)=(x0:Int))=true)=>(An (An (fun (y68:decide (Mrk.th ((Hs.marks g).getD x56 default)=(x0:Int))=true)=>y67) tv) tv)) (An (fun (y69:decide (Mrk.th ((Hs.marks g).getD x56 default)=(x0:Int))=true)=>(An (Ak 1 tv) tv)) (An (fun (y70:decide (Mrk.th ((Hs.marks g).getD x56 default)=(x0:Int))=true)=>(An (An (fun (y71:decide (Mrk.th ((Hs.marks g).getD x56 default)=(x0:Int))=true)=>y70) (An (fun (y72:decide (Mrk.th ((Hs.marks g).getD x56 default)=(x0:Int))=true)=>y70) tv)) tv)) (An (An (fun (y73:decide (Mrk.th ((Hs.marks g).getD x56 default)=(x0:Int))=true)=>y73) (fun (y74:decide (Mrk.th ((Hs.marks g).getD x56 default)=(x0:Int))=false)=>tv)) (Ak 1 tv))))))) ?_
    refine swp_seq ?_
    refine zC ([(24,CallSpec.eq (c112 g c x0 x56) [true,true])]) [1,2,16,17,18,6,68,69,70,5,9,8,113] [0,5001,30424] (Ak 2 (An (fun (y75:(bif decide (Mrk.th ((Hs.marks g).getD x56 default)=(x0:Int)) then decide (Mrk.ch ((Hs.marks g).getD x56 default)=c) else false)=true)=>(An (Ak 1 tv) tv)) (An (fun (y76:(bif decide (Mrk.th ((Hs.marks g).getD x56 default)=(x0:Int)) then decide (Mrk.ch ((Hs.marks g).getD x56 default)=c) else false)=true)=>(An (An (fun (y77:(bif decide (Mrk.th ((Hs.marks g).getD x56 default)=(x0:Int)) then decide (Mrk.ch ((Hs.marks g).getD x56 default)=c) else false)=true)=>y76) tv) tv)) (An (fun (y78:(bif decide (Mrk.th ((Hs.marks g).getD x56 default)=(x0:Int)) then decide (Mrk.ch ((Hs.marks g).getD x56 default)=c) else false)=true)=>(An (Ak 1 tv) tv)) (An (fun (y79:(bif decide (Mrk.th ((Hs.marks g).getD x56 default)=(x0:Int)) then decide (Mrk.ch ((Hs.marks g).getD x56 default)=c) else false)=true)=>(An (Ak 1 tv) tv)) (An (fun (y80:(bif decide (Mrk.th ((Hs.marks g).getD x56 default)=(x0:Int)) then decide (Mrk.ch ((Hs.marks g).getD x56 default)=c) else false)=true)=>(An (An (fun (y81:(bif decide (Mrk.th ((Hs.marks g).getD x56 default)=(x0:Int)) then decide (Mrk.ch ((Hs.marks g).getD x56 default)=c) else false)=true)=>y80) tv) tv)) (An (fun (y82:(bif decide (Mrk.th ((Hs.marks g).getD x56 default)=(x0:Int)) then decide (Mrk.ch ((Hs.marks g).getD x56 default)=c) else false)=true)=>(An (An (fun (y83:(bif decide (Mrk.th ((Hs.marks g).getD x56 default)=(x0:Int)) then decide (Mrk.ch ((Hs.marks g).getD x56 default)=c) else false)=true)=>y82) tv) tv)) (An (fun (y84:(bif decide (Mrk.th ((Hs.marks g).getD x56 default)=(x0:Int)) then decide (Mrk.ch ((Hs.marks g).getD x56 default)=c) else false)=true)=>(An (An (fun (y85:(bif decide (Mrk.th ((Hs.marks g).getD x56 default)=(x0:Int)) then decide (Mrk.ch ((Hs.marks g).getD x56 default)=c) else false)=true)=>y84) (An (fun (y86:(bif decide (Mrk.th ((Hs.marks g).getD x56 default)=(x0:Int)) then decide (Mrk.ch ((Hs.marks g).getD x56 default)=c) else false)=true)=>y84) tv)) (An (o34 hpre x0 hx0 y9 x56 hx56 y65 y84) (o35 hpre x0 hx0 y9 x56 hx56 y65 y84)))) (An (fun (y87:(bif decide (Mrk.th ((Hs.marks g).getD x56 default)=(x0:Int)) then decide (Mrk.ch ((Hs.marks g).getD x56 default)=c) else false)=true)=>(An (An (fun (y88:(bif decide (Mrk.th ((Hs.marks g).getD x56 default)=(x0:Int)) then decide (Mrk.ch ((Hs.marks g).getD x56 default)=c) else false)=true)=>y87) tv) (An (o36 hpre x0 hx0 y9 x56 hx56 y65 y87) tv))) (An (fun (y89:(bif decide (Mrk.th ((Hs.marks g).getD x56 default)=(x0:Int)) then decide (Mrk.ch ((Hs.marks g).getD x56 default)=c) else false)=true)=>(An (An (fun (y90:(bif decide (Mrk.th ((Hs.marks g).getD x56 default)=(x0:Int)) then decide (Mrk.ch ((Hs.marks g).getD x56 default)=c) else false)=true)=>y89) (An (fun (y91:(bif decide (Mrk.th ((Hs.marks g).getD x56 default)=(x0:Int)) then decide (Mrk.ch ((Hs.marks g).getD x56 default)=c) else false)=true)=>y89) tv)) tv)) (An (fun (y92:(bif decide (Mrk.th ((Hs.marks g).getD x56 default)=(x0:Int)) then decide (Mrk.ch ((Hs.marks g).getD x56 default)=c) else false)=true)=>(An (An (fun (y93:(bif decide (Mrk.th ((Hs.marks g).getD x56 default)=(x0:Int)) then decide (Mrk.ch ((Hs.marks g).getD x56 default)=c) else false)=true)=>y92) tv) tv)) (An (fun (y94:((bif decide (Mrk.th ((Hs.marks g).getD x56 default)=(x0:Int)) then decide (Mrk.ch ((Hs.marks g).getD x56 default)=c) else false) && !decide (Mrk.at_ ((Hs.marks g).getD x56 default) < wS (tS g c x0) x0 (mS g c x0 x56) x0))=true)=>(An (Ak 1 tv) tv)) (An (fun (y95:((bif decide (Mrk.th ((Hs.marks g).getD x56 default)=(x0:Int)) then decide (Mrk.ch ((Hs.marks g).getD x56 default)=c) else false) && !decide (Mrk.at_ ((Hs.marks g).getD x56 default) < wS (tS g c x0) x0 (mS g c x0 x56) x0))=true)=>(An (An (fun (y96:((bif decide (Mrk.th ((Hs.marks g).getD x56 default)=(x0:Int)) then decide (Mrk.ch ((Hs.marks g).getD x56 default)=c) else false) && !decide (Mrk.at_ ((Hs.marks g).getD x56 default) < wS (tS g c x0) x0 (mS g c x0 x56) x0))=true)=>y95) tv) tv)) (An (fun (y97:((bif decide (Mrk.th ((Hs.marks g).getD x56 default)=(x0:Int)) then decide (Mrk.ch ((Hs.marks g).getD x56 default)=c) else false) && !decide (Mrk.at_ ((Hs.marks g).getD x56 default) < wS (tS g c x0) x0 (mS g c x0 x56) x0))=true)=>(An (Ak 1 tv) tv)) (An (fun (y98:((bif decide (Mrk.th ((Hs.marks g).getD x56 default)=(x0:Int)) then decide (Mrk.ch ((Hs.marks g).getD x56 default)=c) else false) && !decide (Mrk.at_ ((Hs.marks g).getD x56 default) < wS (tS g c x0) x0 (mS g c x0 x56) x0))=true)=>(An (Ak 1 tv) tv)) (An (fun (y99:((bif decide (Mrk.th ((Hs.marks g).getD x56 default)=(x0:Int)) then decide (Mrk.ch ((Hs.marks g).getD x56 default)=c) else false) && !decide (Mrk.at_ ((Hs.marks g).getD x56 default) < wS (tS g c x0) x0 (mS g c x0 x56) x0))=true)=>(An (An (fun (y100:((bif decide (Mrk.th ((Hs.marks g).getD x56 default)=(x0:Int)) then decide (Mrk.ch ((Hs.marks g).getD x56 default)=c) else false) && !decide (Mrk.at_ ((Hs.marks g).getD x56 default) < wS (tS g c x0) x0 (mS g c x0 x56) x0))=true)=>y99) tv) tv)) (An (fun (y101:((bif decide (Mrk.th ((Hs.marks g).getD x56 default)=(x0:Int)) then decide (Mrk.ch ((Hs.marks g).getD x56 default)=c) else false) && !decide (Mrk.at_ ((Hs.marks g).getD x56 default) < wS (tS g c x0) x0 (mS g c x0 x56) x0))=true)=>(An (An (fun (y102:((bif decide (Mrk.th ((Hs.marks g).getD x56 default)=(x0:Int)) then decide (Mrk.ch ((Hs.marks g).getD x56 default)=c) else false) && !decide (Mrk.at_ ((Hs.marks g).getD x56 default) < wS (tS g c x0) x0 (mS g c x0 x56) x0))=true)=>y101) tv) tv)) (An (fun (y103:((bif decide (Mrk.th ((Hs.marks g).getD x56 default)=(x0:Int)) then decide (Mrk.ch ((Hs.marks g).getD x56 default)=c) else false) && !decide (Mrk.at_ ((Hs.marks g).getD x56 default) < wS (tS g c x0) x0 (mS g c x0 x56) x0))=true)=>(An (An (fun (y104:((bif decide (Mrk.th ((Hs.marks g).getD x56 default)=(x0:Int)) then decide (Mrk.ch ((Hs.marks g).getD x56 default)=c) else false) && !decide (Mrk.at_ ((Hs.marks g).getD x56 default) < wS (tS g c x0) x0 (mS g c x0 x56) x0))=true)=>y103) (An (fun (y105:((bif decide (Mrk.th ((Hs.marks g).getD x56 default)=(x0:Int)) then decide (Mrk.ch ((Hs.marks g).getD x56 default)=c) else false) && !decide (Mrk.at_ ((Hs.marks g).getD x56 default) < wS (tS g c x0) x0 (mS g c x0 x56) x0))=true)=>y103) tv)) (An (o37 hpre x0 hx0 y9 x56 hx56 y65 y103) (o38 hpre x0 hx0 y9 x56 hx56 y65 y103)))) (An (fun (y106:((bif decide (Mrk.th ((Hs.marks g).getD x56 default)=(x0:Int)) then decide (Mrk.ch ((Hs.marks g).getD x56 default)=c) else false) && !decide (Mrk.at_ ((Hs.marks g).getD x56 default) < wS (tS g c x0) x0 (mS g c x0 x56) x0))=true)=>(An (An (fun (y107:((bif decide (Mrk.th ((Hs.marks g).getD x56 default)=(x0:Int)) then decide (Mrk.ch ((Hs.marks g).getD x56 default)=c) else false) && !decide (Mrk.at_ ((Hs.marks g).getD x56 default) < wS (tS g c x0) x0 (mS g c x0 x56) x0))=true)=>y106) tv) (An (o39 hpre x0 hx0 y9 x56 hx56 y65 y106) tv))) (An (fun (y108:((bif decide (Mrk.th ((Hs.marks g).getD x56 default)=(x0:Int)) then decide (Mrk.ch ((Hs.marks g).getD x56 default)=c) else false) && !decide (Mrk.at_ ((Hs.marks g).getD x56 default) < wS (tS g c x0) x0 (mS g c x0 x56) x0))=true)=>(An (An (fun (y109:((bif decide (Mrk.th ((Hs.marks g).getD x56 default)=(x0:Int)) then decide (Mrk.ch ((Hs.marks g).getD x56 default)=c) else false) && !decide (Mrk.at_ ((Hs.marks g).getD x56 default) < wS (tS g c x0) x0 (mS g c x0 x56) x0))=true)=>y108) (An (fun (y110:((bif decide (Mrk.th ((Hs.marks g).getD x56 default)=(x0:Int)) then decide (Mrk.ch ((Hs.marks g).getD x56 default)=c) else false) && !decide (Mrk.at_ ((Hs.marks g).getD x56 default) < wS (tS g c x0) x0 (mS g c x0 x56) x0))=true)=>y108) tv)) tv)) (An (fun (y111:((bif decide (Mrk.th ((Hs.marks g).getD x56 default)=(x0:Int)) then decide (Mrk.ch ((Hs.marks g).getD x56 default)=c) else false) && !decide (Mrk.at_ ((Hs.marks g).getD x56 default) < wS (tS g c x0) x0 (mS g c x0 x56) x0))=true)=>(An (An (fun (y112:((bif decide (Mrk.th ((Hs.marks g).getD x56 default)=(x0:Int)) then decide (Mrk.ch ((Hs.marks g).getD x56 default)=c) else false) && !decide (Mrk.at_ ((Hs.marks g).getD x56 default) < wS (tS g c x0) x0 (mS g c x0 x56) x0))=true)=>y111) tv) tv)) (An (fun (y113:((bif decide (Mrk.th ((Hs.marks g).getD x56 default)=(x0:Int)) then decide (Mrk.ch ((Hs.marks g).getD x56 default)=c) else false) && !decide (Mrk.at_ ((Hs.marks g).getD x56 default) < wS (tS g c x0) x0 (mS g c x0 x56) x0) && decide (Mrk.at_ ((Hs.marks g).getD x56 default)=wS (tS g c x0) x0 (mS g c x0 x56) x0))=true)=>(An (Ak 1 tv) tv)) (An (fun (y114:((bif decide (Mrk.th ((Hs.marks g).getD x56 default)=(x0:Int)) then decide (Mrk.ch ((Hs.marks g).getD x56 default)=c) else false) && !decide (Mrk.at_ ((Hs.marks g).getD x56 default) < wS (tS g c x0) x0 (mS g c x0 x56) x0) && decide (Mrk.at_ ((Hs.marks g).getD x56 default)=wS (tS g c x0) x0 (mS g c x0 x56) x0))=true)=>(An (Ak 1 tv) tv)) (An (fun (y115:((bif decide (Mrk.th ((Hs.marks g).getD x56 default)=(x0:Int)) then decide (Mrk.ch ((Hs.marks g).getD x56 default)=c) else false) && !decide (Mrk.at_ ((Hs.marks g).getD x56 default) < wS (tS g c x0) x0 (mS g c x0 x56) x0) && decide (Mrk.at_ ((Hs.marks g).getD x56 default)=wS (tS g c x0) x0 (mS g c x0 x56) x0))=true)=>(An (Ak 1 (An (fun (y116:((bif decide (Mrk.th ((Hs.marks g).getD x56 default)=(x0:Int)) then decide (Mrk.ch ((Hs.marks g).getD x56 default)=c) else false) && !decide (Mrk.at_ ((Hs.marks g).getD x56 default) < wS (tS g c x0) x0 (mS g c x0 x56) x0) && decide (Mrk.at_ ((Hs.marks g).getD x56 default)=wS (tS g c x0) x0 (mS g c x0 x56) x0))=true)=>y115) (An (fun (y117:((bif decide (Mrk.th ((Hs.marks g).getD x56 default)=(x0:Int)) then decide (Mrk.ch ((Hs.marks g).getD x56 default)=c) else false) && !decide (Mrk.at_ ((Hs.marks g).getD x56 default) < wS (tS g c x0) x0 (mS g c x0 x56) x0) && decide (Mrk.at_ ((Hs.marks g).getD x56 default)=wS (tS g c x0) x0 (mS g c x0 x56) x0))=true)=>y115) tv))) (An (An (An (zr (AV.ptr 5001 [])) (An (zr (iv (x0:Int))) tv)) (An (t133 (5001) (g) (c) (wS (tS g c x0) x0 (mS g c x0 x56)) (wS (tB g c x0) x0 (mB g c x0 x56)) (x0)) (An (An (o40 hpre x0 hx0 y9 x56 hx56 y65 y115) (o41 hpre x0 hx0 y9 x56 hx56 y65 y115)) (An (An (zr (some (OB.cells 184 (cHo g c (wS (tS g c x0) x0 (mS g c x0 x56)) (wS (tB g c x0) x0 (mB g c x0 x56)))))) tv) (fun (i118:Env)=>tv))))) (zr (some (OB.cells 184 (cHo g c (wS (tS g c x0) x0 (mS g c x0 x56)) (wS (tB g c x0) x0 (mB g c x0 x56))))))))) (An (fun (y119:((bif decide (Mrk.th ((Hs.marks g).getD x56 default)=(x0:Int)) then decide (Mrk.ch ((Hs.marks g).getD x56 default)=c) else false) && !decide (Mrk.at_ ((Hs.marks g).getD x56 default) < wS (tS g c x0) x0 (mS g c x0 x56) x0) && decide (Mrk.at_ ((Hs.marks g).getD x56 default)=wS (tS g c x0) x0 (mS g c x0 x56) x0))=true)=>(An (An (fun (y120:((bif decide (Mrk.th ((Hs.marks g).getD x56 default)=(x0:Int)) then decide (Mrk.ch ((Hs.marks g).getD x56 default)=c) else false) && !decide (Mrk.at_ ((Hs.marks g).getD x56 default) < wS (tS g c x0) x0 (mS g c x0 x56) x0) && decide (Mrk.at_ ((Hs.marks g).getD x56 default)=wS (tS g c x0) x0 (mS g c x0 x56) x0))=true)=>y119) tv) tv)) (An (fun (y121:((bif decide (Mrk.th ((Hs.marks g).getD x56 default)=(x0:Int)) then decide (Mrk.ch ((Hs.marks g).getD x56 default)=c) else false) && !decide (Mrk.at_ ((Hs.marks g).getD x56 default) < wS (tS g c x0) x0 (mS g c x0 x56) x0))=true)=>(An (An (fun (y122:((bif decide (Mrk.th ((Hs.marks g).getD x56 default)=(x0:Int)) then decide (Mrk.ch ((Hs.marks g).getD x56 default)=c) else false) && !decide (Mrk.at_ ((Hs.marks g).getD x56 default) < wS (tS g c x0) x0 (mS g c x0 x56) x0))=true)=>y121) tv) (An (fun (y123:decide (Mrk.at_ ((Hs.marks g).getD x56 default)=wS (tS g c x0) x0 (mS g c x0 x56) x0)=true)=>(o42 hpre x0 hx0 y9 x56 hx56 y65 y121 y123)) (fun (y124:decide (Mrk.at_ ((Hs.marks g).getD x56 default)=wS (tS g c x0) x0 (mS g c x0 x56) x0)=false)=>tv)))) (An (fun (y125:(bif decide (Mrk.th ((Hs.marks g).getD x56 default)=(x0:Int)) then decide (Mrk.ch ((Hs.marks g).getD x56 default)=c) else false)=true)=>(An (An (fun (y126:(bif decide (Mrk.th ((Hs.marks g).getD x56 default)=(x0:Int)) then decide (Mrk.ch ((Hs.marks g).getD x56 default)=c) else false)=true)=>y125) tv) (An (fun (y127:decide (Mrk.at_ ((Hs.marks g).getD x56 default) < wS (tS g c x0) x0 (mS g c x0 x56) x0)=true)=>tv) (fun (y128:decide (Mrk.at_ ((Hs.marks g).getD x56 default) < wS (tS g c x0) x0 (mS g c x0 x56) x0)=false)=>(o43 hpre x0 hx0 y9 x56 hx56 y65 y125 y128))))) (An (An (fun (y129:(bif decide (Mrk.th ((Hs.marks g).getD x56 default)=(x0:Int)) then decide (Mrk.ch ((Hs.marks g).getD x56 default)=c) else false)=true)=>y129) (fun (y130:(bif decide (Mrk.th ((Hs.marks g).getD x56 default)=(x0:Int)) then decide (Mrk.ch ((Hs.marks g).getD x56 default)=c) else false)=false)=>tv)) tv)))))))))))))))))))))))))))) ?_
    refine zI (bif bif decide (Mrk.th ((Hs.marks g).getD x56 default)=(x0:Int)) then decide (Mrk.ch ((Hs.marks g).getD x56 default)=c) else false then bif decide (Mrk.at_ ((Hs.marks g).getD x56 default) < wS (tS g c x0) x0 (mS g c x0 x56) x0) then true else bif decide (Mrk.at_ ((Hs.marks g).getD x56 default)=wS (tS g c x0) x0 (mS g c x0 x56) x0) then !markedB g (wS (tB g c x0) x0 (mB g c x0 x56)) x0 else false else false) (fun y131 => ?_) (fun y131 => ?_)
    ·refine zR [1,2,16,17,18,6,68,69,70,5] [0,5001] (Ak 9 (An (An (o44 hpre x0 hx0 y9 x56 hx56 y65 y131) (o45 hpre x0 hx0 y9 x56 hx56 y65 y131)) (An (An (o46 hpre x0 hx0 y9 x56 hx56 y65 y131) tv) (Ak 2 (An (An (o47 hpre x0 hx0 y9 x56 hx56 y65 y131) (o48 hpre x0 hx0 y9 x56 hx56 y65 y131)) (An (An (o49 hpre x0 hx0 y9 x56 hx56 y65 y131) tv) tv)))))) ?_
     refine zR [1,2,16,17,18,6,68,69,70,5] [0,5001] (An (o50 hpre x0 hx0 y9 x56 hx56 y65 y131) (Ak 1 tv)) ?_
     exact zn (zE hE [] [(0,.same 0),(5001,.same 5001)] [1,16,17,18,6,68,69] [0] (An (An (An (zr (iv c)) (zr true)) (An (An (zr (some (Src.same 0))) (zr nilP)) (An (An (zr (AV.sl 4 (Hs.things g).length fun (i:Nat)=>cThg (thg g i))) (zr true)) (An (An (zr (iv (↑((Hs.things g).length):Int))) (zr true)) (An (An (zr (iv (x0:Int))) (zr true)) (An (An (zr (iv (x0:Int))) (zr true)) (An (An (zr (aMrks (Hs.marks g))) (zr true)) (An (An (zr (iv (↑((Hs.marks g).length):Int))) (zr true)) (An (An (ci (o51 hpre x0 hx0 y9 x56 hx56 y65 y131)) (zr nilN)) (An (An (zr (some (Src.same 5001))) (zr nilP)) tv)))))))))) (An (An (An (zr (OB.cells 25 (cHs g))) (zr true)) (An (An (zr 184) (An (An (An (zr 4) (An (zr (Hs.things g).length) (fun (i132:Nat)=>(fun (y133:i132 < (Hs.things g).length)=>(zr (cThg (thg g i132))))))) (An (An (zr 3) (An (zr (Hs.marks g).length) (fun (i134:Nat)=>(fun (y135:i134 < (Hs.marks g).length)=>(zr (cMrk ((Hs.marks g).getD i134 default))))))) (An (An (zr (iv c)) (zr nilN)) (An (An (zr 1) (An (zr 8) (fun (i136:Nat)=>(fun (y137:i136 < 8)=>(o52 hpre x0 hx0 y9 x56 hx56 y65 y131 i136 y137))))) (An (An (zr 1) (An (zr 8) (fun (i138:Nat)=>(fun (y139:i138 < 8)=>(o53 hpre x0 hx0 y9 x56 hx56 y65 y131 i138 y139))))) tv))))) (zr true))) tv)) (An (zr true) (zr true))))) (o54 hpre x0 hx0 y9 x56 hx56 y65 y131) (o55 hpre x0 hx0 y9 x56 hx56 y65 y131)
    ·refine swp_skip ?_
     refine zR [1,2,16,17,18,6,68,69,70,5] [0,5001] (An (o56 hpre x0 hx0 y9 x56 hx56 y65 y131) (Ak 1 tv)) ?_
     exact zn (zE hE [] [(0,.same 0),(5001,.same 5001)] [1,16,17,18,6,68,69] [0] (An (An (An (zr (iv c)) (zr true)) (An (An (zr (some (Src.same 0))) (zr nilP)) (An (An (zr (AV.sl 4 (Hs.things g).length fun (i:Nat)=>cThg (thg g i))) (zr true)) (An (An (zr (iv (↑((Hs.things g).length):Int))) (zr true)) (An (An (zr (iv (x0:Int))) (zr true)) (An (An (zr (iv (x0:Int))) (zr true)) (An (An (zr (aMrks (Hs.marks g))) (zr true)) (An (An (zr (iv (↑((Hs.marks g).length):Int))) (zr true)) (An (An (ci (o57 hpre x0 hx0 y9 x56 hx56 y65 y131)) (zr nilN)) (An (An (zr (some (Src.same 5001))) (zr nilP)) tv)))))))))) (An (An (An (zr (OB.cells 25 (cHs g))) (zr true)) (An (An (zr 184) (An (An (An (zr 4) (An (zr (Hs.things g).length) (fun (i140:Nat)=>(fun (y141:i140 < (Hs.things g).length)=>(zr (cThg (thg g i140))))))) (An (An (zr 3) (An (zr (Hs.marks g).length) (fun (i142:Nat)=>(fun (y143:i142 < (Hs.marks g).length)=>(zr (cMrk ((Hs.marks g).getD i142 default))))))) (An (An (zr (iv c)) (zr nilN)) (An (An (zr 1) (An (zr 8) (fun (i144:Nat)=>(fun (y145:i144 < 8)=>(o58 hpre x0 hx0 y9 x56 hx56 y65 y131 i144 y145))))) (An (An (zr 1) (An (zr 8) (fun (i146:Nat)=>(fun (y147:i146 < 8)=>(o59 hpre x0 hx0 y9 x56 hx56 y65 y131 i146 y147))))) tv))))) (zr true))) tv)) (An (zr true) (zr true))))) (o60 hpre x0 hx0 y9 x56 hx56 y65 y131) (o61 hpre x0 hx0 y9 x56 hx56 y65 y131)
   ·refine swp_exit ?_
    refine zR [1,2,16,17,18,5] [0,5001] (An (o62 hpre x0 hx0 y9 x56 hx56 y65) (Ak 1 tv)) ?_
    exact zn (zE hE [] [(0,.same 0),(5000,.same 5001)] [1,16,17] [0] (An (An (An (zr (iv c)) (zr true)) (An (An (zr (some (Src.same 0))) (zr nilP)) (An (An (zr (AV.sl 4 (Hs.things g).length fun (i:Nat)=>cThg (thg g i))) (zr true)) (An (An (zr (iv (↑((Hs.things g).length):Int))) (zr true)) (An (An (ci (o63 hpre x0 hx0 y9 x56 hx56 y65)) (zr nilN)) (An (An (zr (some (Src.same 5001))) (zr nilP)) tv)))))) (An (An (An (zr (OB.cells 25 (cHs g))) (zr true)) (An (An (zr 184) (An (An (An (zr 4) (An (zr (Hs.things g).length) (fun (i148:Nat)=>(fun (y149:i148 < (Hs.things g).length)=>(zr (cThg (thg g i148))))))) (An (An (zr 3) (An (zr (Hs.marks g).length) (fun (i150:Nat)=>(fun (y151:i150 < (Hs.marks g).length)=>(zr (cMrk ((Hs.marks g).getD i150 default))))))) (An (An (zr (iv c)) (zr nilN)) (An (An (zr 1) (An (zr 8) (fun (i152:Nat)=>(fun (y153:i152 < 8)=>(o64 hpre x0 hx0 y9 x56 hx56 y65 i152 y153))))) (An (An (zr 1) (An (zr 8) (fun (i154:Nat)=>(fun (y155:i154 < 8)=>(o65 hpre x0 hx0 y9 x56 hx56 y65 i154 y155))))) tv))))) (zr true))) tv)) (An (zr true) (zr true))))) (o66 hpre x0 hx0 y9 x56 hx56 y65) (o67 hpre x0 hx0 y9 x56 hx56 y65)
  ·refine zI (bif !decide (Thg.off (thg g x0) = -1) then decide (wS (tS g c x0) x0 100 (Thg.off (thg g x0)).toNat<=Thg.at_ (thg g x0)) else false) (fun y39 => ?_) (fun y39 => ?_)
   ·refine zR [1,2,16,17,18,5,6] [0,5000] (Ak 11 (An (An (o17 hpre x0 hx0 y9 y39) (o18 hpre x0 hx0 y9 y39)) (An (An (o19 hpre x0 hx0 y9 y39) tv) (Ak 2 (An (An (o20 hpre x0 hx0 y9 y39) (o21 hpre x0 hx0 y9 y39)) (An (An (o22 hpre x0 hx0 y9 y39) tv) (Ak 2 (An (An (o23 hpre x0 hx0 y9 y39) (o24 hpre x0 hx0 y9 y39)) (An (An (o25 hpre x0 hx0 y9 y39) tv) tv))))))))) ?_
    exact join_end (zE hE [] [(0,.same 0),(5000,.same 5000)] [1,16,17,18,6] [0] (An (An (An (zr (iv c)) (zr true)) (An (An (zr (some (Src.same 0))) (zr nilP)) (An (An (zr (AV.sl 4 (Hs.things g).length fun (i:Nat)=>cThg (thg g i))) (zr true)) (An (An (zr (iv (↑((Hs.things g).length):Int))) (zr true)) (An (An (zr (iv (x0:Int))) (zr true)) (An (An (zr (some (Src.same 5000))) (zr nilP)) (An (An (zr (iv (x0:Int))) (zr true)) tv))))))) (An (An (An (zr 184) (An (An (An (zr 4) (An (zr (Hs.things g).length) (fun (i40:Nat)=>(fun (y41:i40 < (Hs.things g).length)=>(zr (cThg (thg g i40))))))) (An (An (zr 3) (An (zr (Hs.marks g).length) (fun (i42:Nat)=>(fun (y43:i42 < (Hs.marks g).length)=>(zr (cMrk ((Hs.marks g).getD i42 default))))))) (An (An (zr (iv c)) (zr nilN)) (An (An (zr 1) (An (zr 8) (fun (i44:Nat)=>(fun (y45:i44 < 8)=>(o26 hpre x0 hx0 y9 y39 i44 y45))))) (An (An (zr 1) (An (zr 8) (fun (i46:Nat)=>(fun (y47:i46 < 8)=>(o27 hpre x0 hx0 y9 y39 i46 y47))))) tv))))) (zr true))) (An (An (zr (OB.cells 25 (cHs g))) (zr true)) tv)) (An (zr true) (zr true)))))
   ·refine swp_skip ?_
    exact join_end (zE hE [] [(0,.same 0),(5000,.same 5000)] [1,16,17,18,6] [0] (An (An (An (zr (iv c)) (zr true)) (An (An (zr (some (Src.same 0))) (zr nilP)) (An (An (zr (AV.sl 4 (Hs.things g).length fun (i:Nat)=>cThg (thg g i))) (zr true)) (An (An (zr (iv (↑((Hs.things g).length):Int))) (zr true)) (An (An (zr (iv (x0:Int))) (zr true)) (An (An (zr (some (Src.same 5000))) (zr nilP)) (An (An (zr (iv (x0:Int))) (zr true)) tv))))))) (An (An (An (zr 184) (An (An (An (zr 4) (An (zr (Hs.things g).length) (fun (i48:Nat)=>(fun (y49:i48 < (Hs.things g).length)=>(zr (cThg (thg g i48))))))) (An (An (zr 3) (An (zr (Hs.marks g).length) (fun (i50:Nat)=>(fun (y51:i50 < (Hs.marks g).length)=>(zr (cMrk ((Hs.marks g).getD i50 default))))))) (An (An (zr (iv c)) (zr nilN)) (An (An (zr 1) (An (zr 8) (fun (i52:Nat)=>(fun (y53:i52 < 8)=>(o28 hpre x0 hx0 y9 y39 i52 y53))))) (An (An (zr 1) (An (zr 8) (fun (i54:Nat)=>(fun (y55:i54 < 8)=>(o29 hpre x0 hx0 y9 y39 i54 y55))))) tv))))) (zr true))) (An (An (zr (OB.cells 25 (cHs g))) (zr true)) tv)) (An (zr true) (zr true)))))
 ·refine swp_exit ?_
  refine swp_seq ?_
  refine swp_ent (zF 5000) ?_
  refine zR [4] [] (Ak 2 tv) ?_
  refine swp_ret ?_
  exact zT [] (An (Ak 1 tv) (An (An (o68 hpre x0 hx0 y9) (zr nilN)) (An (zr true) (An (zr true) (zr true)))))
theorem rec7 {α:Type} {i j:Nat} {a:¬ i=j->α} {b:i=j->α} {c:α} (h1:∀ h,a h=c) (h2:∀ h,b h=c):(Decidable.rec a b (instDecidableEqNat i j):α)=c:=by
 cases instDecidableEqNat i j with
 | isTrue h=>exact h2 h
 | isFalse h=>exact h1 h
theorem wS_at (f:Nat->Int) (i:Nat) (v:Int):wS f i v i=v:=if_pos rfl
theorem wS_ne (f:Nat->Int) {i j:Nat} (v:Int) (h:j ≠ i):wS f i v j=f j:=if_neg h
theorem rec_wS {f:Nat->Int} {i j:Nat} {v v':Int}:(Decidable.rec (fun _=>[iv (wS f i v j)]) (fun _=>[iv v'] ++ []) (instDecidableEqNat j i):List AV) = [iv (wS f i v' j)]:=rec7 (fun h=>by rw [wS_ne _ _ h,wS_ne _ _ h]) (fun h=>by rw [h,wS_at]; rfl)
theorem rec_w {f:Nat->Int} {i j:Nat} {v':Int}:(Decidable.rec (fun _=>[iv (f j)]) (fun _=>[iv v'] ++ []) (instDecidableEqNat j i):List AV) = [iv (wS f i v' j)]:=rec7 (fun h=>by rw [wS_ne _ _ h]) (fun h=>by rw [h,wS_at]; rfl)
theorem m_zero (g:Hs) (c:Int) (x:Nat):mS g c x 0=(base7 g x (tab7 g c x)).1/\mB g c x 0=(base7 g x (tab7 g c x)).2:=⟨rfl,rfl⟩
theorem base_b {g:Hs} {c:Int} {x:Nat} (hx:x < g.things.length) (hok:okW g=true):(bif !decide ((thg g x).off = -1) then decide (wS (tS g c x) x 100 (thg g x).off.toNat<=(thg g x).at_) else false)=baseB g x (tab7 g c x):=by
 have:=(okT_facts ((okW_iff.1 hok).2.2.1 x hx)).1
 unfold baseB
 by_cases e:(thg g x).off = -1
 ·rw [decide_eq_true e]; rfl
 ·rw [wS_ne _ _ (by omega)]; rw [decide_eq_false e]; rfl
theorem mark_b (g:Hs) (c:Int) (x n:Nat):(bif bif decide ((g.marks.getD n default).th=(x:Int)) then decide ((g.marks.getD n default).ch=c) else false then bif decide ((g.marks.getD n default).at_ < wS (tS g c x) x (mS g c x n) x) then true else bif decide ((g.marks.getD n default).at_=wS (tS g c x) x (mS g c x n) x) then !markedB g (wS (tB g c x) x (mB g c x n)) x else false else false)=markB g c x (markTo g c x (tab7 g c x) n) n:=by
 rw [wS_at]
 unfold markedB markB
 rw [wS_at]
 generalize decide ((g.marks.getD n default).th=(x:Int))=a1
 unfold mS mB
 cases a1 <;> cases decide ((g.marks.getD n default).ch=c) <;> cases decide ((g.marks.getD n default).at_ < (markTo g c x (tab7 g c x) n).1) <;> cases decide ((g.marks.getD n default).at_=(markTo g c x (tab7 g c x) n).1) <;> rfl
theorem ts_succ (g:Hs) (c:Int) (x j:Nat):(tab7 g c (x + 1)).getD j (0,0)=if j=x then markTo g c x (tab7 g c x) g.marks.length else (tab7 g c x).getD j (0,0):=by
 rw [tab7,Go.Ab.getD_append,tab7_len]
 by_cases h:j < x
 ·rw [if_pos h,if_neg (by omega)]
 ·rw [if_neg h]
  by_cases e:j=x
  ·rw [if_pos e,e,Nat.sub_self]; rfl
  ·rw [if_neg e,Go.Ab.getD_ge (tab7 g c x) _ (by rw [tab7_len]; omega),Go.Ab.getD_ge _ _ (by show 1<=_; omega)]
theorem tS_succ (g:Hs) (c:Int) (x j:Nat):tS g c (x + 1) j=wS (tS g c x) x (mS g c x g.marks.length) j:=by
 unfold tS wS; rw [ts_succ]; split <;> rfl
theorem tB_succ (g:Hs) (c:Int) (x j:Nat):tB g c (x + 1) j=wS (tB g c x) x (mB g c x g.marks.length) j:=by
 unfold tB wS; rw [ts_succ]; split <;> rfl
theorem markTo_B {g:Hs} {c:Int} {x:Nat} {tab:List (Int × Int)} (h:(base7 g x tab).2 < g.marks.length):∀ n,n<=g.marks.length->(markTo g c x tab n).2 < g.marks.length:=by
 intro n
 induction n with
 | zero=>intro _; exact h
 | succ n ih =>
  intro hn
  rw [markTo_succ,markStep]
  split
  ·show (n:Int) < _; omega
  ·exact ih (by omega)
theorem base_B {g:Hs} {x:Nat} {tab:List (Int × Int)} (hx:x < g.things.length) (hok:okW g=true) (h:∀ j,j < x->(tab.getD j (0,0)).2 < g.marks.length):(base7 g x tab).2 < g.marks.length:=by
 have:=(okT_facts ((okW_iff.1 hok).2.2.1 x hx)).1
 rw [base7]
 split
 ·rename_i e
  simp only [baseB,Bool.and_eq_true,Bool.not_eq_true',decide_eq_false_iff_not] at e
  exact h _ (by omega)
 ·show (-1:Int) < _; omega
theorem tab_B {g:Hs} {c:Int} (hok:okW g=true):∀ n,n<=g.things.length -> ∀ j,j < n->((tab7 g c n).getD j (0,0)).2 < g.marks.length:=by
 intro n
 induction n with
 | zero=>intro _ j hj; omega
 | succ n ih =>
  intro hn j hj
  rw [ts_succ]
  split
  ·exact markTo_B (base_B (by omega) hok (fun j hj=>ih (by omega) j hj)) _ (Nat.le_refl _)
  ·exact ih (by omega) j (by omega)
theorem mB_lt {g:Hs} {c:Int} {x n:Nat} (hok:okW g=true) (hx:x < g.things.length) (hn:n<=g.marks.length):mB g c x n < g.marks.length:=markTo_B (base_B hx hok (fun j hj=>tab_B hok x (by omega) j hj)) n hn
theorem t112 (g:Hs) (c:Int):Triple Try.prog 112 (s112 g c):=by
  apply w112
  all_goals (try delta q1o q1p q1q q1r q1s q1t q1u q1v q1w q1x q1y q1z q20)
  all_goals (first | ((repeat intro _) <;> (try simp only [Bool.cond_true_left,Bool.cond_false_right,Bool.not_not,Bool.not_eq_true',Bool.not_eq_false',Bool.or_eq_true,Bool.or_eq_false_iff,Bool.and_eq_true,decide_eq_true_eq,decide_eq_false_iff_not,inI,big] at *) <;> first | (exact rfl) | omega | (exact ⟨Nat.zero_le _,fun j hj=>absurd hj (Nat.not_lt_zero j)⟩) | (simp_all; done) | (simp_all; omega)) | skip)
  all_goals (intro hok; obtain ⟨l1,l2,hT,hM⟩:=okW_iff.1 hok; intro x hx hl; simp only [decide_eq_true_eq,decide_eq_false_iff_not] at hl)
  case o12 | o13=>intro i hi; exact rec_w
  case o68 =>
    have e:x=g.things.length:=by omega
    rw [e]
  all_goals (have hxl:x < g.things.length:=(by omega); obtain ⟨f1,f2,f3,f4,f5⟩:=okT_facts (hT x hxl))
  case o7 | o8 | o10 | o11=>omega
  case o14 | o15 | o16=>intro hh; simp only [Bool.not_eq_true',decide_eq_false_iff_not] at hh; omega
  case o17 | o18 | o19=>intro hh; simp only [Bool.cond_false_right,Bool.and_eq_true,Bool.not_eq_true',decide_eq_false_iff_not] at hh; omega
  case o21 | o22 | o24 | o25=>intro _; omega
  case o26 =>
    intro hh i hi
    rw [base_b hxl hok] at hh
    have:mS g c x 0=(thg g x).at_:=by rw [(m_zero g c x).1,base7,if_pos hh]
    rw [this]; exact rec_wS
  case o27 =>
    intro hh i hi
    have hne:(thg g x).off ≠ -1:=by simp only [Bool.cond_false_right,Bool.and_eq_true,Bool.not_eq_true',decide_eq_false_iff_not] at hh; exact hh.1
    rw [base_b hxl hok] at hh
    have:mB g c x 0=wS (tB g c x) x (-1) (thg g x).off.toNat:=by rw [(m_zero g c x).2,base7,if_pos hh,wS_ne _ _ (by omega)]; rfl
    rw [this]; exact rec_wS
  case o28 =>
    intro hh i hi
    rw [base_b hxl hok] at hh
    have:mS g c x 0=100:=by rw [(m_zero g c x).1,base7,hh]; rfl
    rw [this]
  case o29 =>
    intro hh i hi
    rw [base_b hxl hok] at hh
    have:mB g c x 0 = -1:=by rw [(m_zero g c x).2,base7,hh]; rfl
    rw [this]
  all_goals (intro y hy hyl; simp only [decide_eq_true_eq,decide_eq_false_iff_not] at hyl)
  case o62=>exact ⟨by omega,by omega⟩
  case o64 => intro i hi; have e : y = g.marks.length := by omega
              rw [e,tS_succ]
  case o65 => intro i hi; have e : y = g.marks.length := by omega
              rw [e,tB_succ]
  all_goals (intro hh)
  case o41=>rw [wS_at]; exact mB_lt hok hxl hy
  case o50 | o56=>exact ⟨by omega,by omega⟩
  case o52 =>
    intro i hi
    rw [mark_b] at hh
    have:mS g c x (y + 1)=(g.marks.getD y default).at_:=by unfold mS; rw [markTo_succ,markStep,if_pos hh]
    rw [this]; exact rec_wS
  case o53 =>
    intro i hi
    rw [mark_b] at hh
    have:mB g c x (y + 1)=(y:Int):=by unfold mB; rw [markTo_succ,markStep,if_pos hh]
    rw [this]; exact rec_wS
  case o58 =>
    intro i hi
    rw [mark_b] at hh
    have:mS g c x (y + 1)=mS g c x y:=by unfold mS; rw [markTo_succ,markStep,hh]; rfl
    rw [this]
  case o59 =>
    intro i hi
    rw [mark_b] at hh
    have:mB g c x (y + 1)=mB g c x y:=by unfold mB; rw [markTo_succ,markStep,hh]; rfl
    rw [this]
  all_goals omega
theorem w119 (g:Hs) (c:Int) (S:Nat->Int) (B:Nat->Int) (n:Int) (m:Int)
  (o0:0<=n/\n < 8->n < (↑8:Int))
  (o1:0<=n/\n < 8->n < (↑8:Int))
  (o2:0<=n/\n < 8->decide (S n.toNat<=m)=hasB S m n) :
  Triple Try.prog 119 (s119 g c S B n m):=by
 refine triple_of Try.func119 rfl Try.call119 T0_ok _ rfl rfl rfl rfl (Nat.le_of_ble_eq_true (by kernel_rfl)) (fun _ _ _ _ h=>h) ?_
 intro hpre C hC _ hE
 obtain ⟨P,w0,E0,av,hA,ro,df⟩:=C
 obtain ⟨rfl,rfl,rfl⟩:=hC
 refine swp_seq ?_
 refine zR [0,1,2] [] (Ak 1 tv) ?_
 refine swp_seq ?_
 refine zR [6] [] (Ak 4 (An (An hpre.1 (An (o0 hpre) (o1 hpre))) (Ak 4 tv))) ?_
 refine swp_ret ?_
 exact zT [] (An (Ak 1 tv) (An (An (cb (o2 hpre)) (zr nilN)) (An (zr true) (An (zr true) (zr true)))))
theorem t119 (g:Hs) (c:Int) (S B:Nat->Int) (n m:Int):Triple Try.prog 119 (s119 g c S B n m):=by
 apply w119
 all_goals (first | ((repeat intro _) <;> (try simp only [Bool.cond_true_left,Bool.cond_false_right,Bool.not_not,Bool.not_eq_true',Bool.not_eq_false',Bool.or_eq_true,Bool.or_eq_false_iff,Bool.and_eq_true,decide_eq_true_eq,decide_eq_false_iff_not,inI,big] at *) <;> first | (exact rfl) | omega | (exact ⟨Nat.zero_le _,fun j hj=>absurd hj (Nat.not_lt_zero j)⟩) | (simp_all; done) | (simp_all; omega)) | skip)
abbrev q21 (g:Hs) (P:Nat->Bool) (E0:Env) (Pq:Prop):Prop:=fnokOf Try.prog 0 (fun (i:{ i:Nat // i < (Hs.things g).length })=>[iv (↑(Subtype.val i):Int),vThg (thg g (Subtype.val i))]) (fun (i:{ i:Nat // i < (Hs.things g).length })=>bv (P (Subtype.val i))) E0->(Hs.things g).length<=8->Pq
abbrev q22 (g:Hs) (x0:Nat) (Pq:Prop):Prop:=x0<=(Hs.things g).length->Pq
abbrev q23 (g:Hs) (x0:Nat) (Pq:Prop):Prop:=q22 g x0 (decide ((x0:Int) < (↑((Hs.things g).length):Int))=true->Pq)
theorem w134 (g:Hs) (c:Int) (S:Nat->Int) (B:Nat->Int) (P:Nat->Bool)
 (o0:∀ (E0:Env),q21 g P E0 (0=(↑0:Int)))
 (o1:∀ (E0:Env),q21 g P E0 ((thTo P 0).length=0))
 (o2:∀ (E0:Env),q21 g P E0 (0<=(Hs.things g).length))
 (o3:∀ (E0:Env),q21 g P E0 (∀ (x0:Nat),q23 g x0 (0<=(x0:Int))))
 (o4:∀ (E0:Env),q21 g P E0 (∀ (x0:Nat),q23 g x0 ((x0:Int) < (↑((Hs.things g).length):Int))))
 (o5:∀ (E0:Env),q21 g P E0 (∀ (x0:Nat),q23 g x0 (∀ (i2:Value),E0.4 0 i2->FnOK Try.prog E0 i2 [iv (x0:Int),vThg (thg g x0)] (bv (P x0)))))
 (o6:∀ (E0:Env),q21 g P E0 (∀ (x0:Nat),q23 g x0 (P x0=true->(thTo P x0).length + 1<=65536)))
 (o7:∀ (E0:Env),q21 g P E0 (∀ (x0:Nat),q23 g x0 (P x0=true->inI ((x0:Int) + 1))))
 (o8:∀ (E0:Env),q21 g P E0 (∀ (x0:Nat),q23 g x0 (P x0=true->(x0:Int) + 1=(↑(x0 + 1):Int))))
 (o9:∀ (E0:Env),q21 g P E0 (∀ (x0:Nat),q23 g x0 (P x0=true->(thTo P x0).length + 1=(thTo P (x0 + 1)).length)))
 (o10:∀ (E0:Env),q21 g P E0 (∀ (x0:Nat),q23 g x0 (P x0=true -> ∀ (i5:Nat),i5 < (thTo P x0).length + 1->catF (thTo P x0).length (fun (k:Nat)=>[iv ((thTo P x0).getD k 0)]) (fun (j:Nat)=>List.getD [[iv (x0:Int)]] j (TI.za ti3)) i5 = [iv ((thTo P (x0 + 1)).getD i5 0)])))
 (o11:∀ (E0:Env),q21 g P E0 (∀ (x0:Nat),q23 g x0 (P x0=true->x0 + 1<=(Hs.things g).length)))
 (o12:∀ (E0:Env),q21 g P E0 (∀ (x0:Nat),q23 g x0 (P x0=true->(Hs.things g).length - (x0 + 1) < (Hs.things g).length - x0)))
 (o13:∀ (E0:Env),q21 g P E0 (∀ (x0:Nat),q23 g x0 (P x0=false->inI ((x0:Int) + 1))))
 (o14:∀ (E0:Env),q21 g P E0 (∀ (x0:Nat),q23 g x0 (P x0=false->(x0:Int) + 1=(↑(x0 + 1):Int))))
 (o15:∀ (E0:Env),q21 g P E0 (∀ (x0:Nat),q23 g x0 (P x0=false->(thTo P x0).length=(thTo P (x0 + 1)).length)))
 (o16:∀ (E0:Env),q21 g P E0 (∀ (x0:Nat),q23 g x0 (P x0=false -> ∀ (i7:Nat),i7 < (thTo P x0).length -> [iv ((thTo P x0).getD i7 0)] = [iv ((thTo P (x0 + 1)).getD i7 0)])))
 (o17:∀ (E0:Env),q21 g P E0 (∀ (x0:Nat),q23 g x0 (P x0=false->x0 + 1<=(Hs.things g).length)))
 (o18:∀ (E0:Env),q21 g P E0 (∀ (x0:Nat),q23 g x0 (P x0=false->(Hs.things g).length - (x0 + 1) < (Hs.things g).length - x0)))
 (o19:∀ (E0:Env),q21 g P E0 (∀ (x0:Nat),q22 g x0 (decide ((x0:Int) < (↑((Hs.things g).length):Int))=false->(thTo P x0).length=(thTo P (Hs.things g).length).length)))
 (o20:∀ (E0:Env),q21 g P E0 (∀ (x0:Nat),q22 g x0 (decide ((x0:Int) < (↑((Hs.things g).length):Int))=false -> ∀ (i9:Nat),i9 < (thTo P (Hs.things g).length).length -> [iv ((thTo P x0).getD i9 0)] = [iv ((thTo P (Hs.things g).length).getD i9 0)]))) :
  Triple Try.prog 134 (s134 g c S B P):=by
 refine triple_of Try.func134 rfl Try.call134 T0_ok _ rfl rfl rfl rfl (Nat.le_of_ble_eq_true (by kernel_rfl)) fnokOf_congr ?_
 intro hpre C hC hfn hE
 obtain ⟨P,w0,E0,av,hA,ro,df⟩:=C
 obtain ⟨rfl,rfl,rfl⟩:=hC
 refine swp_seq ?_
 refine zR [0,1,4] [] (Ak 1 tv) ?_
 refine swp_seq ?_
 refine swp_seq ?_
 refine zR [1,4,11,12,13] [] (Ak 7 tv) ?_
 refine swp_block ?_
 refine zL (Hint.ann (h134 g c S B P) [(1,AV.fn 0),(11,AV.sl 4 (Hs.things g).length fun (i:Nat)=>cThg (thg g i)),(12,iv (↑((Hs.things g).length):Int))] [] 10064) (zE hE [] [(5000,.nil)] [1,11,12] [] (An (An (An (zr (AV.fn 0)) (zr true)) (An (An (zr (AV.sl 4 (Hs.things g).length fun (i:Nat)=>cThg (thg g i))) (zr true)) (An (An (zr (iv (↑((Hs.things g).length):Int))) (zr true)) (An (An (ci (o0 E0 hfn hpre)) (zr nilN)) (An (zr (some Src.nil)) tv))))) (An (An (o1 E0 hfn hpre) tv) (An (zr true) (zr true))))) (o2 E0 hfn hpre) (fun (x0:Nat) hx0 => ?_)
 refine swp_seq ?_
 refine zR [1,11,12,13,4,14] [5000] (Ak 1 tv) ?_
 refine swp_seq ?_
 refine zI (decide ((x0:Int) < (↑((Hs.things g).length):Int))) (fun y1 => ?_) (fun y1 => ?_)
 ·refine swp_skip ?_
  refine swp_seq ?_
  refine swp_block ?_
  refine swp_seq ?_
  refine zR [1,11,12,13,4,6,5] [5000,10096] (Ak 1 (An (An (o3 E0 hfn hpre x0 hx0 y1) (o4 E0 hfn hpre x0 hx0 y1)) (Ak 4 tv))) ?_
  refine swp_seq ?_
  refine zC ([(3,CallSpec.eq (c134 g c S B P x0) [true,true])]) [1,11,12,13,4,5,21] [5000] (Ak 3 (An (An (An (zr (iv (x0:Int))) (An (An (zr (iv (Thg.off (thg g x0)))) (An (zr (iv (Thg.at_ (thg g x0)))) (An (zr (iv (Thg.cost (thg g x0)))) (An (zr (iv (Thg.prints (thg g x0)))) tv)))) tv)) (fun (i2:Value)=>(fun (y3:E0.4 0 i2)=>(o5 E0 hfn hpre x0 hx0 y1 i2 y3)))) tv)) ?_
  refine zI (P x0) (fun y4 => ?_) (fun y4 => ?_)
  ·refine zR [1,11,12,13,4] [10176] (Ak 3 (An (o6 E0 hfn hpre x0 hx0 y1 y4) (Ak 1 tv))) ?_
   refine zR [1,11,12,13,4] [10176] (An (o7 E0 hfn hpre x0 hx0 y1 y4) (Ak 1 tv)) ?_
   exact zn (zE hE [] [(5000,.same 10176)] [1,11,12] [] (An (An (An (zr (AV.fn 0)) (zr true)) (An (An (zr (AV.sl 4 (Hs.things g).length fun (i:Nat)=>cThg (thg g i))) (zr true)) (An (An (zr (iv (↑((Hs.things g).length):Int))) (zr true)) (An (An (ci (o8 E0 hfn hpre x0 hx0 y1 y4)) (zr nilN)) (An (zr (some (Src.same 10176))) tv))))) (An (An (An (zr 3) (An (zr 1) (An (o9 E0 hfn hpre x0 hx0 y1 y4) (fun (i5:Nat)=>(fun (y6:i5 < (thTo P x0).length + 1)=>(o10 E0 hfn hpre x0 hx0 y1 y4 i5 y6)))))) tv) (An (zr true) (zr true))))) (o11 E0 hfn hpre x0 hx0 y1 y4) (o12 E0 hfn hpre x0 hx0 y1 y4)
  ·refine swp_skip ?_
   refine zR [1,11,12,13,4] [5000] (An (o13 E0 hfn hpre x0 hx0 y1 y4) (Ak 1 tv)) ?_
   exact zn (zE hE [] [(5000,.same 5000)] [1,11,12] [] (An (An (An (zr (AV.fn 0)) (zr true)) (An (An (zr (AV.sl 4 (Hs.things g).length fun (i:Nat)=>cThg (thg g i))) (zr true)) (An (An (zr (iv (↑((Hs.things g).length):Int))) (zr true)) (An (An (ci (o14 E0 hfn hpre x0 hx0 y1 y4)) (zr nilN)) (An (zr (some (Src.same 5000))) tv))))) (An (An (An (zr 3) (An (zr 1) (An (o15 E0 hfn hpre x0 hx0 y1 y4) (fun (i7:Nat)=>(fun (y8:i7 < (thTo P x0).length)=>(o16 E0 hfn hpre x0 hx0 y1 y4 i7 y8)))))) tv) (An (zr true) (zr true))))) (o17 E0 hfn hpre x0 hx0 y1 y4) (o18 E0 hfn hpre x0 hx0 y1 y4)
 ·refine swp_exit ?_
  refine swp_seq ?_
  refine zR [4] [5000] (Ak 2 tv) ?_
  refine swp_ret ?_
  exact zT [5000] (An (Ak 1 tv) (An (An (zr 1) (An (o19 E0 hfn hpre x0 hx0 y1) (fun (i9:Nat)=>(fun (y10:i9 < (thTo P (Hs.things g).length).length)=>(o20 E0 hfn hpre x0 hx0 y1 i9 y10))))) (An (zr true) (An (zr true) (zr true)))))
theorem thTo_len (P:Nat->Bool):∀ n,(thTo P n).length<=n:=by
 intro n
 induction n with
 | zero=>exact Nat.le_refl _
 | succ n ih =>
  rw [thTo]
  split
  ·rw [List.length_append,List.length_singleton]; omega
  ·omega
theorem thTo_t {P:Nat->Bool} {n:Nat} (h:P n=true):thTo P (n + 1)=thTo P n ++ [(n:Int)]:=by rw [thTo,if_pos h]
theorem thTo_f {P:Nat->Bool} {n:Nat} (h:P n=false):thTo P (n + 1)=thTo P n:=by rw [thTo,h]; rfl
theorem mem_thTo {P:Nat->Bool} {v:Int}:∀ {n},v ∈ thTo P n -> ∃ i:Nat,v=i/\i < n/\P i=true:=by
 intro n
 induction n with
 | zero=>intro h; cases h
 | succ n ih =>
  intro h
  cases hp:P n with
  | true =>
   rw [thTo_t hp,List.mem_append,List.mem_singleton] at h
   rcases h with h | h
   ·obtain ⟨i,a,b,c⟩:=ih h; exact ⟨i,a,by omega,c⟩
   ·exact ⟨n,h,by omega,hp⟩
  | false =>
   rw [thTo_f hp] at h
   obtain ⟨i,a,b,c⟩:=ih h; exact ⟨i,a,by omega,c⟩
theorem t134 (g:Hs) (c:Int) (S B:Nat->Int) (P:Nat->Bool):Triple Try.prog 134 (s134 g c S B P):=by
 apply w134
 all_goals (try delta q21 q22 q23)
 all_goals (first | ((repeat intro _) <;> (try simp only [Bool.cond_true_left,Bool.cond_false_right,Bool.not_not,Bool.not_eq_true',Bool.not_eq_false',Bool.or_eq_true,Bool.or_eq_false_iff,Bool.and_eq_true,decide_eq_true_eq,decide_eq_false_iff_not,inI,big] at *) <;> first | (exact rfl) | omega | (exact ⟨Nat.zero_le _,fun j hj=>absurd hj (Nat.not_lt_zero j)⟩) | (simp_all; done) | (simp_all; omega)) | skip)
 all_goals (intro E0 hfn hp x hx hl; simp only [decide_eq_true_eq,decide_eq_false_iff_not] at hl)
 case o5=>intro u hu; exact hfn u hu ⟨x,by omega⟩
 case o19 | o20 =>
  have e:x=g.things.length:=by omega
  subst e
  first | rfl | (intro i hi; rfl)
 all_goals (intro hh)
 case o6=>have:=thTo_len P x; omega
 case o9=>rw [thTo_t hh,List.length_append]; rfl
 case o10=>intro i hi; rw [thTo_t hh]; exact catF_one _ _ 0 (fun z=>[iv z]) rfl (fun _ _=>rfl) rfl hi
 case o15=>rw [thTo_f hh]
 case o16=>intro i hi; rw [thTo_f hh]
theorem w135 (n:Nat) (t:Thg) (g:Hs) (c:Int) (S:Nat->Int) (B:Nat->Int)
  (o0:n < 8->decide (Thg.prints t=1)=true->0<=(n:Int))
  (o1:n < 8->decide (Thg.prints t=1)=true->(n:Int) < 8)
  (o2:n < 8->(bif decide (Thg.prints t=1) then !hasB S 99 (n:Int) else false)=(decide (Thg.prints t=1) && !hasB S 99 (n:Int))) :
  Triple Try.prog 135 (s135 n t g c S B):=by
 refine triple_of Try.func135 rfl Try.call135 T0_ok _ rfl rfl rfl rfl (Nat.le_of_ble_eq_true (by kernel_rfl)) (fun _ _ _ _ h=>h) ?_
 intro hpre C hC _ hE
 obtain ⟨P,w0,E0,av,hA,ro,df⟩:=C
 obtain ⟨rfl,rfl,rfl⟩:=hC
 refine swp_seq ?_
 refine zR [0,2,4] [0] (Ak 2 tv) ?_
 refine swp_seq ?_
 refine zC ([(6,CallSpec.eq (s119 g c S B (n:Int) 99) [true,true,true])]) [5] [] (Ak 4 (An (fun (y0:decide (Thg.prints t=1)=true)=>(An (Ak 1 tv) tv)) (An (fun (y1:decide (Thg.prints t=1)=true)=>(An (Ak 1 tv) tv)) (An (fun (y2:decide (Thg.prints t=1)=true)=>(An (Ak 1 (An (fun (y3:decide (Thg.prints t=1)=true)=>y2) (An (fun (y4:decide (Thg.prints t=1)=true)=>y2) (Ak 1 tv)))) (An (An (zr (AV.rp (cHo g c S B))) (An (zr (iv (n:Int))) (An (zr (iv 99)) tv))) (An (t119 (g) (c) (S) (B) ((n:Int)) (99)) (An (An (o0 hpre y2) (o1 hpre y2)) (Ak 1 (fun (i5:Env)=>tv))))))) (An (fun (y6:decide (Thg.prints t=1)=true)=>(An (An (fun (y7:decide (Thg.prints t=1)=true)=>y6) tv) tv)) (An (An (fun (y8:decide (Thg.prints t=1)=true)=>y8) (fun (y9:decide (Thg.prints t=1)=false)=>tv)) (Ak 1 tv))))))) ?_
 refine swp_ret ?_
 exact zT [] (An (Ak 1 tv) (An (An (cb (o2 hpre)) (zr nilN)) (An (zr true) (An (zr true) (zr true)))))
theorem t135 (n:Nat) (t:Thg) (g:Hs) (c:Int) (S B:Nat->Int):Triple Try.prog 135 (s135 n t g c S B):=by
 apply w135
 all_goals (first | ((repeat intro _) <;> (try simp only [Bool.cond_true_left,Bool.cond_false_right,Bool.not_not,Bool.not_eq_true',Bool.not_eq_false',Bool.or_eq_true,Bool.or_eq_false_iff,Bool.and_eq_true,decide_eq_true_eq,decide_eq_false_iff_not,inI,big] at *) <;> first | (exact rfl) | omega | (exact ⟨Nat.zero_le _,fun j hj=>absurd hj (Nat.not_lt_zero j)⟩) | (simp_all; done) | (simp_all; omega)) | skip)
theorem w113 (g:Hs) (c:Int) (S:Nat->Int) (B:Nat->Int)
  (o0:∀ (E0:Env),(Hs.things g).length<=8 -> ∀ (i0:Env) (i1:List Value),Env.le E0 i0->i1.length=2->(∀ (k:Nat),Rel i0 true (List.getD [AV.rp (cHo g c S B),AV.clo 135 [AV.rp [AV.rp (cHo g c S B)]]] k AV.any) (i1.getD k undef))->fnokOf Try.prog 0 (fun (i:{ i:Nat // i < (Hs.things g).length })=>[iv (↑(Subtype.val i):Int),vThg (thg g (Subtype.val i))]) (fun (i:{ i:Nat // i < (Hs.things g).length })=>bv (lackP g S (Subtype.val i))) (Env.mk i0.1 i0.2 i0.3 fun (k:Nat) (u:Value) => ∃ (i:Nat),[AV.rp (cHo g c S B),AV.fn 0][i]? = some (AV.fn k)/\i1[i]? = some u)) :
  Triple Try.prog 113 (s113 g c S B):=by
 refine triple_of Try.func113 rfl Try.call113 T0_ok _ rfl rfl rfl rfl (Nat.le_of_ble_eq_true (by kernel_rfl)) (fun _ _ _ _ h=>h) ?_
 intro hpre C hC _ hE
 obtain ⟨P,w0,E0,av,hA,ro,df⟩:=C
 obtain ⟨rfl,rfl,rfl⟩:=hC
 refine swp_seq ?_
 refine zR [1] [0] (Ak 2 tv) ?_
 refine swp_seq ?_
 refine swp_ent (zF 0) ?_
 refine zC ([(2,CallSpec.eq (c113 g c S B) [true,false])]) [2] [] (Ak 2 (An (An (An (zr (AV.rp (cHo g c S B))) (Ak 1 tv)) (An (t134 (g) (c) (S) (B) (lackP g S)) (An hpre (Ak 1 (fun (i0:Env)=>(fun (i1:List Value)=>(fun (y2:Env.le E0 i0)=>(fun (y3:i1.length=2)=>(fun (y4:∀ (k:Nat),Rel i0 true (List.getD [AV.rp (cHo g c S B),AV.clo 135 [AV.rp [AV.rp (cHo g c S B)]]] k AV.any) (i1.getD k undef))=>(o0 E0 hpre i0 i1 y2 y3 y4)))))))))) (Ak 1 tv))) ?_
 refine swp_ret ?_
 exact zT [] (An (Ak 1 tv) (An (An (zr 1) (An (zr (thTo (lackP g S) (Hs.things g).length).length) (fun (i5:Nat)=>(fun (y6:i5 < (thTo (lackP g S) (Hs.things g).length).length)=>(zr ([iv ((thTo (lackP g S) (Hs.things g).length).getD i5 0)])))))) (An (zr true) (An (zr true) (zr true)))))
theorem t113 (g:Hs) (c:Int) (S B:Nat->Int):Triple Try.prog 113 (s113 g c S B):=by
 apply w113
 ·intro E0 hp E us le hlen hr
  refine fnok_arg (vals:=[.rp (cHo g c S B),.clo 135 [.rp [.rp (cHo g c S B)]]]) 1 (fun j' h => ?_) (fun E u hu w=>fnok_clo (caps:=[.rp [.rp (cHo g c S B)]]) (s135 w.1 (thg g w.1) g c S B) (t135 _ _ _ _ _ _) rfl (by have:=w.2; show w.1 < 8; omega) (fun _=>trivial) rfl rfl rfl rfl rfl hu) E us le hlen hr
  match j',h with
  | 0,h=>cases h
  | 1,_=>rfl
  | n + 2,h=>simp at h
 all_goals (first | ((repeat intro _) <;> (try simp only [Bool.cond_true_left,Bool.cond_false_right,Bool.not_not,Bool.not_eq_true',Bool.not_eq_false',Bool.or_eq_true,Bool.or_eq_false_iff,Bool.and_eq_true,decide_eq_true_eq,decide_eq_false_iff_not,inI,big] at *) <;> first | (exact rfl) | omega | (exact ⟨Nat.zero_le _,fun j hj=>absurd hj (Nat.not_lt_zero j)⟩) | (simp_all; done) | (simp_all; omega)) | skip)
abbrev q24 (g:Hs) (Pq:Prop):Prop:=(Hs.things g).length<=65536/\(Hs.marks g).length<=65536->Pq
theorem wo11 (g:Hs)
 (o0:q24 g (0 + (Hs.things g).length<=65536))
 (o1:q24 g (0 + (Hs.marks g).length<=65536))
 (o2:q24 g (0 + (Hs.things g).length=(Hs.things g).length))
 (o3:q24 g (0 + (Hs.marks g).length=(Hs.marks g).length))
  (l:List (Nat × Nat)) (hl:l.map (·.1)=(OutSpec.hout (ou11 g)).map (·.1)) (hnd:(l.map (·.2)).Nodup) :
  Triple Try.prog 11 (OutSpec.at (ou11 g) l):=by
 refine triple_out Try.func11 rfl Try.call11 T0_ok _ _ _ _ l rfl (Nat.le_of_ble_eq_true (by kernel_rfl)) hl hnd (by kernel_rfl) (by kernel_rfl) (by kernel_rfl) ?_
 intro hpre C hC hE
 obtain ⟨P,w0,E0,av,hA,ro,df⟩:=C
 obtain ⟨rfl,rfl,rfl⟩:=hC
 refine swp_seq ?_
 refine zR [1,2] [0,8] (Ak 2 tv) ?_
 refine swp_seq ?_
 refine zR [2] [8,40,72] (Ak 3 (An (o0 hpre) (Ak 3 (An (o1 hpre) (Ak 2 tv))))) ?_
 refine swp_ret ?_
 exact zO (ASt.mk [(2,AV.ptr 90 [])] [(90,OB.cells 25 [AV.vec 0,AV.vec 1]),(0,OB.vec 43 4 (Hs.things g).length fun (k:Nat)=>cThg (thg g k)),(1,OB.vec 36 3 (Hs.marks g).length fun (k:Nat)=>cMrk ((Hs.marks g).getD k default))] 100) (zE hE [] [(90,.same 8),(0,.same 40),(1,.same 72)] [] [] (An (An (An (zr (some (Src.same 8))) (zr nilP)) tv) (An (An (An (zr 25) (An (An (zr (some (Src.same 40))) (An (zr (some (Src.same 72))) tv)) (zr true))) (An (An (zr 43) (An (zr 4) (An (o2 hpre) (fun (i0:Nat)=>(fun (y1:i0 < 0 + (Hs.things g).length)=>(zr (cThg (thg g i0)))))))) (An (An (zr 36) (An (zr 3) (An (o3 hpre) (fun (i2:Nat)=>(fun (y3:i2 < 0 + (Hs.marks g).length)=>(zr (cMrk ((Hs.marks g).getD i2 default)))))))) tv))) (An (zr true) (zr true))))) (An (Ak 1 tv) (An (zr (AV.agg [AV.vec 0,AV.vec 1])) (An (zr (some (OB.vec 43 4 (Hs.things g).length fun (k:Nat)=>cThg (thg g k)))) (An (zr (some (OB.vec 36 3 (Hs.marks g).length fun (k:Nat)=>cMrk ((Hs.marks g).getD k default)))) tv))))
theorem to11 (g:Hs) (l:List (Nat × Nat)) (hl:l.map (·.1) = [0,1]) (hnd:(l.map (·.2)).Nodup):Triple Try.prog 11 ((ou11 g).at l):=by
 apply wo11 (l:=l) (hl:=hl) (hnd:=hnd)
 all_goals (try delta q24)
 all_goals (first | ((repeat intro _) <;> (try simp only [Bool.cond_true_left,Bool.cond_false_right,Bool.not_not,Bool.not_eq_true',Bool.not_eq_false',Bool.or_eq_true,Bool.or_eq_false_iff,Bool.and_eq_true,decide_eq_true_eq,decide_eq_false_iff_not,inI,big] at *) <;> first | (exact rfl) | omega | (exact ⟨Nat.zero_le _,fun j hj=>absurd hj (Nat.not_lt_zero j)⟩) | (simp_all; done) | (simp_all; omega)) | skip)
theorem t11o (g:Hs) (id:Nat):Triple Try.prog 11 (s11o g id):=to11 g _ rfl (by simp)
abbrev q25 (g:Hs) (Pq:Prop):Prop:=(Hs.things g).length<=65536/\(Hs.marks g).length<=65536->Pq
theorem w11 (g:Hs)
 (o0:q25 g (0 + (Hs.things g).length<=65536))
 (o1:q25 g (0 + (Hs.marks g).length<=65536))
 (o2:q25 g (0 + (Hs.things g).length=(Hs.things g).length))
 (o3:q25 g (0 + (Hs.marks g).length=(Hs.marks g).length)) :
  Triple Try.prog 11 (s11 g):=by
 refine triple_of Try.func11 rfl Try.call11 T0_ok _ rfl rfl rfl rfl (Nat.le_of_ble_eq_true (by kernel_rfl)) (fun _ _ _ _ h=>h) ?_
 intro hpre C hC _ hE
 obtain ⟨P,w0,E0,av,hA,ro,df⟩:=C
 obtain ⟨rfl,rfl,rfl⟩:=hC
 refine swp_seq ?_
 refine zR [1,2] [0,8] (Ak 2 tv) ?_
 refine swp_seq ?_
 refine zR [2] [8,40,72] (Ak 3 (An (o0 hpre) (Ak 3 (An (o1 hpre) (Ak 2 tv))))) ?_
 refine swp_ret ?_
 exact zT [40,72] (An (Ak 1 tv) (An (An (An (zr 4) (An (o2 hpre) (fun (i0:Nat)=>(fun (y1:i0 < (Hs.things g).length)=>(zr (cThg (thg g i0))))))) (An (An (zr 3) (An (o3 hpre) (fun (i2:Nat)=>(fun (y3:i2 < (Hs.marks g).length)=>(zr (cMrk ((Hs.marks g).getD i2 default))))))) tv)) (An (zr true) (An (zr true) (zr true)))))
theorem t11 (g:Hs):Triple Try.prog 11 (s11 g):=by
 apply w11
 all_goals (try delta q25)
 all_goals (first | ((repeat intro _) <;> (try simp only [Bool.cond_true_left,Bool.cond_false_right,Bool.not_not,Bool.not_eq_true',Bool.not_eq_false',Bool.or_eq_true,Bool.or_eq_false_iff,Bool.and_eq_true,decide_eq_true_eq,decide_eq_false_iff_not,inI,big] at *) <;> first | (exact rfl) | omega | (exact ⟨Nat.zero_le _,fun j hj=>absurd hj (Nat.not_lt_zero j)⟩) | (simp_all; done) | (simp_all; omega)) | skip)
abbrev q26 (g:Hs) (i:Int) (Pq:Prop):Prop:=((Hs.things g).length<=65536/\(Hs.marks g).length<=65536)/\0<=i/\i < (↑((Hs.things g).length):Int)->Pq
theorem w77 (g:Hs) (i:Int) (cost:Int)
 (o0:q26 g i ((Hs.things g).length<=65536))
 (o1:q26 g i ((Hs.marks g).length<=65536))
 (o2:q26 g i (0<=i))
 (o3:q26 g i (i < (↑((Hs.things g).length):Int)))
 (o4:q26 g i (i.toNat < (Hs.things g).length))
 (o5:q26 g i (0<=i))
 (o6:q26 g i (i < (↑((Hs.things g).length):Int)))
 (o7:q26 g i (i.toNat < (Hs.things g).length))
 (o8:q26 g i ((Hs.things g).length=(Hs.things (priced g i.toNat cost)).length))
 (o9:q26 g i (∀ (i1:Nat),i1 < (Hs.things (priced g i.toNat cost)).length->Decidable.rec (fun (h:¬i1=i.toNat)=>cThg (thg g i1)) (fun (h:i1=i.toNat)=>[iv (Thg.off (thg g i.toNat)),iv (Thg.at_ (thg g i.toNat)),iv cost,iv (Thg.prints (thg g i.toNat))] ++ []) (instDecidableEqNat i1 i.toNat)=cThg (thg (priced g i.toNat cost) i1)))
 (o10:q26 g i ((Hs.marks g).length=(Hs.marks (priced g i.toNat cost)).length))
 (o11:q26 g i (∀ (i3:Nat),i3 < (Hs.marks (priced g i.toNat cost)).length->cMrk ((Hs.marks g).getD i3 default)=cMrk ((Hs.marks (priced g i.toNat cost)).getD i3 default))) :
  Triple Try.prog 77 (s77 g i cost):=by
 refine triple_of Try.func77 rfl Try.call77 T0_ok _ rfl rfl rfl rfl (Nat.le_of_ble_eq_true (by kernel_rfl)) (fun _ _ _ _ h=>h) ?_
 intro hpre C hC _ hE
 obtain ⟨P,w0,E0,av,hA,ro,df⟩:=C
 obtain ⟨rfl,rfl,rfl⟩:=hC
 refine swp_seq ?_
 refine zR [1,2,3,6] [0,8] (Ak 2 tv) ?_
 refine swp_seq ?_
 refine zC ([(1,CallSpec.eq (c77 g i cost 24) [true])]) [1,2,6,7] [8,32,24,25] (Ak 1 (An (An (An (zr (AV.agg (cHs g))) tv) (An (t11o (g) (24)) (An (An (o0 hpre) (o1 hpre)) (Ak 1 (fun (i0:Env)=>tv))))) (Ak 2 tv))) ?_
 refine swp_seq ?_
 refine zR [1,2,6,7,8] [8,32,88,24,25] (Ak 3 (An (An (o2 hpre) (o3 hpre)) (An (An (o4 hpre) tv) (Ak 2 tv)))) ?_
 refine swp_seq ?_
 refine zR [1,6,7,8] [8,32,88,24,25] (Ak 3 tv) ?_
 refine swp_seq ?_
 refine zR [6,7] [8,32,24,25] (Ak 4 (An (An (o5 hpre) (o6 hpre)) (An (An (o7 hpre) tv) tv))) ?_
 refine swp_seq ?_
 refine zR [6] [8,24,25] (Ak 2 tv) ?_
 refine swp_ret ?_
 exact zT [24,25] (An (Ak 1 tv) (An (An (An (zr 4) (An (o8 hpre) (fun (i1:Nat)=>(fun (y2:i1 < (Hs.things (priced g i.toNat cost)).length)=>(o9 hpre i1 y2))))) (An (An (zr 3) (An (o10 hpre) (fun (i3:Nat)=>(fun (y4:i3 < (Hs.marks (priced g i.toNat cost)).length)=>(o11 hpre i3 y4))))) tv)) (An (zr true) (An (zr true) (zr true)))))
theorem thg_priced {g:Hs} {i:Nat} (hi:i < g.things.length) (cost:Int) (j:Nat):thg (priced g i cost) j=if j=i then ⟨(thg g i).off,(thg g i).at_,cost,(thg g i).prints⟩ else thg g j:=by
 show (g.things.set i _).getD j default=_
 rw [List.getD_eq_getElem?_getD,List.getElem?_set]
 by_cases e:i=j
 ·subst e; rw [if_pos rfl,if_pos hi,if_pos rfl]; rfl
 ·rw [if_neg e,if_neg (fun h=>e h.symm),thg,List.getD_eq_getElem?_getD]
theorem t77 (g:Hs) (i cost:Int):Triple Try.prog 77 (s77 g i cost):=by
 apply w77
 all_goals (try delta q26)
 case o8=>intro _; exact (List.length_set).symm
 case o9=>intro hp j hj; exact rec7 (fun h=>by rw [thg_priced (by omega),if_neg h]) (fun h=>by rw [thg_priced (by omega),if_pos h]; rfl)
 all_goals (first | ((repeat intro _) <;> (try simp only [Bool.cond_true_left,Bool.cond_false_right,Bool.not_not,Bool.not_eq_true',Bool.not_eq_false',Bool.or_eq_true,Bool.or_eq_false_iff,Bool.and_eq_true,decide_eq_true_eq,decide_eq_false_iff_not,inI,big] at *) <;> first | (exact rfl) | omega | (exact ⟨Nat.zero_le _,fun j hj=>absurd hj (Nat.not_lt_zero j)⟩) | (simp_all; done) | (simp_all; omega)) | skip)
theorem w38 
  (o0:∀ (i0:Nat),i0 < (Hs.things exH).length->List.getD [[iv (-1),iv 0,iv 20,iv 0],[iv 0,iv 5,iv 9,iv 0],[iv 1,iv 10,iv 3,iv 1],[iv 1,iv 20,iv 3,iv 1],[iv 0,iv 25,iv 8,iv 0],[iv 4,iv 30,iv 2,iv 1]] i0 (TI.za ti43)=cThg (thg exH i0))
  (o1:∀ (i2:Nat),i2 < (Hs.marks exH).length->List.getD [[iv 0,iv 1,iv 12],[iv 1,iv 0,iv 22]] i2 (TI.za ti36)=cMrk ((Hs.marks exH).getD i2 default))
  (o2:∀ (i10:Nat),i10 < (Hs.things exG).length->cThg (thg (priced (priced exH 2 5) 3 5) i10)=cThg (thg exG i10))
  (o3:∀ (i12:Nat),i12 < (Hs.marks exG).length->cMrk ((Hs.marks (priced (priced exH 2 5) 3 5)).getD i12 default)=cMrk ((Hs.marks exG).getD i12 default)) :
  Triple Try.prog 38 (s38):=by
 refine triple_of Try.func38 rfl Try.call38 T0_ok _ rfl rfl rfl rfl (Nat.le_of_ble_eq_true (by kernel_rfl)) (fun _ _ _ _ h=>h) ?_
 intro _ C hC _ hE
 obtain ⟨P,w0,E0,av,hA,ro,df⟩:=C
 obtain ⟨rfl,rfl,rfl⟩:=hC
 refine swp_seq ?_
 refine zR [0,1] [0,8] (Ak 2 tv) ?_
 refine swp_seq ?_
 refine zR [0,1] [0,8,64,88] (Ak 12 tv) ?_
 refine swp_seq ?_
 refine swp_ent (zE (st2:=ASt.mk [(0,AV.ptr 0 []),(1,AV.ptr 8 [])] [(0,OB.cells 25 (cHs exH)),(8,OB.cells 25 [nilv,nilv])] 112) hE [64,88] [(0,.same 0),(8,.same 8)] [] [8] (An (An (An (zr (some (Src.same 0))) (zr nilP)) (An (An (zr (some (Src.same 8))) (zr nilP)) tv)) (An (An (An (zr 25) (An (An (An (zr 4) (An (by decide:6=(Hs.things exH).length) (fun (i0:Nat)=>(fun (y1:i0 < (Hs.things exH).length)=>(o0 i0 y1))))) (An (An (zr 3) (An (by decide:2=(Hs.marks exH).length) (fun (i2:Nat)=>(fun (y3:i2 < (Hs.marks exH).length)=>(o1 i2 y3))))) tv)) (zr true))) (An (An (zr (OB.cells 25 [nilv,nilv])) (zr true)) tv)) (An (zr true) (zr true))))) ?_
 refine zC ([(2,CallSpec.eq c38a [true,true,true]),(3,CallSpec.eq c38b [true,true,true])]) [0,1] [0,8] (Ak 2 (An (An (An (zr (AV.agg (cHs exH))) (An (zr (iv 2)) (An (zr (iv 5)) tv))) (An (t77 (exH) (2) (5)) (An (An (An (by decide:(Hs.things exH).length<=65536) (by decide:(Hs.marks exH).length<=65536)) (An (by decide:Int.ofNat 0<=Int.ofNat 2) (by decide:2 < (↑((Hs.things exH).length):Int)))) (Ak 1 (fun (i4:Env)=>tv))))) (An (An (An (zr (AV.agg (cHs (priced exH 2 5)))) (An (zr (iv 3)) (An (zr (iv 5)) tv))) (An (t77 (priced exH 2 5) (3) (5)) (An (An (An (by decide:(Hs.things (priced exH 2 5)).length<=65536) (by decide:(Hs.marks (priced exH 2 5)).length<=65536)) (An (by decide:Int.ofNat 0<=Int.ofNat 3) (by decide:3 < (↑((Hs.things (priced exH 2 5)).length):Int)))) (Ak 1 (fun (i5:Env)=>tv))))) (Ak 2 tv)))) ?_
 refine swp_ret ?_
 exact zT [] (An (Ak 2 tv) (An (An (An (An (zr 4) (An (zr (Hs.things exH).length) (fun (i6:Nat)=>(fun (y7:i6 < (Hs.things exH).length)=>(zr (cThg (thg exH i6))))))) (An (An (zr 3) (An (zr (Hs.marks exH).length) (fun (i8:Nat)=>(fun (y9:i8 < (Hs.marks exH).length)=>(zr (cMrk ((Hs.marks exH).getD i8 default))))))) tv)) (An (An (An (zr 4) (An (by decide:(Hs.things (priced (priced exH 2 5) 3 5)).length=(Hs.things exG).length) (fun (i10:Nat)=>(fun (y11:i10 < (Hs.things exG).length)=>(o2 i10 y11))))) (An (An (zr 3) (An (by decide:(Hs.marks (priced (priced exH 2 5) 3 5)).length=(Hs.marks exG).length) (fun (i12:Nat)=>(fun (y13:i12 < (Hs.marks exG).length)=>(o3 i12 y13))))) tv)) tv)) (An (zr true) (An (zr true) (zr true)))))
theorem t38:Triple Try.prog 38 s38:=by
 apply w38
 case o0 =>
  intro i hi
  have:i=0 ∨ i=1 ∨ i=2 ∨ i=3 ∨ i=4 ∨ i=5:=by simp [exH] at hi; omega
  rcases this with rfl | rfl | rfl | rfl | rfl | rfl <;> rfl
 case o1 =>
  intro i hi
  have:i=0 ∨ i=1:=by simp [exH] at hi; omega
  rcases this with rfl | rfl <;> rfl
 all_goals (first | ((repeat intro _) <;> (try simp only [Bool.cond_true_left,Bool.cond_false_right,Bool.not_not,Bool.not_eq_true',Bool.not_eq_false',Bool.or_eq_true,Bool.or_eq_false_iff,Bool.and_eq_true,decide_eq_true_eq,decide_eq_false_iff_not,inI,big] at *) <;> first | (exact rfl) | omega | (exact ⟨Nat.zero_le _,fun j hj=>absurd hj (Nat.not_lt_zero j)⟩) | (simp_all; done) | (simp_all; omega)) | skip)
theorem t38o (g k:Hs):Triple Try.prog 38 (s38o g k):=⟨t38.1,fun h=>by obtain ⟨rfl,rfl⟩:=h; exact t38.2 trivial⟩
theorem w41 
  (o0:∀ (i0:Nat),i0 < (Hs.things (Twn.house exT)).length->List.getD [[iv (-1),iv 0,iv 5,iv 0],[iv 0,iv 10,iv 3,iv 0],[iv 1,iv 20,iv 2,iv 1],[iv (-1),iv 5,iv 5,iv 0],[iv 3,iv 30,iv 2,iv 1]] i0 (TI.za ti43)=cThg (thg (Twn.house exT) i0))
  (o1:∀ (i2:Nat),i2 < (Hs.marks (Twn.house exT)).length->List.getD [[iv 0,iv 1,iv 15],[iv 1,iv 3,iv 25]] i2 (TI.za ti36)=cMrk ((Hs.marks (Twn.house exT)).getD i2 default))
  (o2:∀ (i4:Nat),i4 < (Twn.places exT).length->List.getD [[iv 0],[iv 1],[iv 1],[iv 1],[iv 1]] i4 (TI.za ti3) = [iv ((Twn.places exT).getD i4 0)])
  (o3:∀ (i6:Nat),i6 < (Twn.carry exT).length->List.getD [[iv 9],[iv 2],[iv 4],[iv 5],[iv 3]] i6 (TI.za ti3) = [iv ((Twn.carry exT).getD i6 0)])
  (o4:∀ (i8:Nat),i8 < (Twn.rooms exT).length->List.getD [[iv 3],[iv 4],[iv 1]] i8 (TI.za ti3) = [iv ((Twn.rooms exT).getD i8 0)])
  (o5:40=Twn.minute exT) :
  Triple Try.prog 41 (s41):=by
 refine triple_of Try.func41 rfl Try.call41 T0_ok _ rfl rfl rfl rfl (Nat.le_of_ble_eq_true (by kernel_rfl)) (fun _ _ _ _ h=>h) ?_
 intro _ C hC _ hE
 obtain ⟨P,w0,E0,av,hA,ro,df⟩:=C
 obtain ⟨rfl,rfl,rfl⟩:=hC
 refine swp_seq ?_
 refine zR [0] [0] (Ak 1 tv) ?_
 refine swp_seq ?_
 refine zR [0] [0,48,72,88,96,104] (Ak 15 tv) ?_
 refine swp_ret ?_
 exact zT [48,72,88,96,104] (An (Ak 1 tv) (An (An (An (zr 4) (An (by decide:5=(Hs.things (Twn.house exT)).length) (fun (i0:Nat)=>(fun (y1:i0 < (Hs.things (Twn.house exT)).length)=>(o0 i0 y1))))) (An (An (zr 3) (An (by decide:2=(Hs.marks (Twn.house exT)).length) (fun (i2:Nat)=>(fun (y3:i2 < (Hs.marks (Twn.house exT)).length)=>(o1 i2 y3))))) (An (An (zr 1) (An (by decide:5=(Twn.places exT).length) (fun (i4:Nat)=>(fun (y5:i4 < (Twn.places exT).length)=>(o2 i4 y5))))) (An (An (zr 1) (An (by decide:5=(Twn.carry exT).length) (fun (i6:Nat)=>(fun (y7:i6 < (Twn.carry exT).length)=>(o3 i6 y7))))) (An (An (zr 1) (An (by decide:3=(Twn.rooms exT).length) (fun (i8:Nat)=>(fun (y9:i8 < (Twn.rooms exT).length)=>(o4 i8 y9))))) (An (An (ci (o5)) (zr nilN)) tv)))))) (An (zr true) (An (zr true) (zr true)))))
theorem t41  : Triple Try.prog 41 (s41 ):=by
 apply w41
 case o0 =>
  intro i hi
  have:i=0 ∨ i=1 ∨ i=2 ∨ i=3 ∨ i=4:=by simp [exT] at hi; omega
  rcases this with rfl | rfl | rfl | rfl | rfl <;> rfl
 case o1 =>
  intro i hi
  have:i=0 ∨ i=1:=by simp [exT] at hi; omega
  rcases this with rfl | rfl <;> rfl
 case o2 | o3 =>
  intro i hi
  have:i=0 ∨ i=1 ∨ i=2 ∨ i=3 ∨ i=4:=by simp [exT] at hi; omega
  rcases this with rfl | rfl | rfl | rfl | rfl <;> rfl
 case o4 =>
  intro i hi
  have:i=0 ∨ i=1 ∨ i=2:=by simp [exT] at hi; omega
  rcases this with rfl | rfl | rfl <;> rfl
 all_goals (first | ((repeat intro _) <;> (try simp only [Bool.cond_true_left,Bool.cond_false_right,Bool.not_not,Bool.not_eq_true',Bool.not_eq_false',Bool.or_eq_true,Bool.or_eq_false_iff,Bool.and_eq_true,decide_eq_true_eq,decide_eq_false_iff_not,inI,big] at *) <;> first | (exact rfl) | omega | (exact ⟨Nat.zero_le _,fun j hj=>absurd hj (Nat.not_lt_zero j)⟩) | (simp_all; done) | (simp_all; omega)) | skip)
theorem w9 (t:Twn)
  (o0:small10 t->(Hs.things (Twn.house t)).length<=65536)
  (o1:small10 t->(Hs.marks (Twn.house t)).length<=65536)
  (o2:small10 t->0 + (Twn.places t).length<=65536)
  (o3:small10 t->0 + List.length (Twn.carry t)<=65536)
  (o4:small10 t->0 + List.length (Twn.rooms t)<=65536)
  (o5:small10 t->0 + (Twn.places t).length=(Twn.places t).length)
  (o6:small10 t->0 + (Twn.carry t).length=(Twn.carry t).length)
  (o7:small10 t->0 + (Twn.rooms t).length=(Twn.rooms t).length) :
  Triple Try.prog 9 (s9 t):=by
 refine triple_of Try.func9 rfl Try.call9 T0_ok _ rfl rfl rfl rfl (Nat.le_of_ble_eq_true (by kernel_rfl)) (fun _ _ _ _ h=>h) ?_
 intro hpre C hC _ hE
 obtain ⟨P,w0,E0,av,hA,ro,df⟩:=C
 obtain ⟨rfl,rfl,rfl⟩:=hC
 refine swp_seq ?_
 refine zR [1,2] [0,8] (Ak 2 tv) ?_
 refine swp_seq ?_
 refine zC ([(2,CallSpec.eq (s11 (Twn.house t)) [true])]) [2] [8,64,96,128] (Ak 2 (An (An (An (zr (AV.agg (cHs (Twn.house t)))) tv) (An (t11 (Twn.house t)) (An (An (o0 hpre) (o1 hpre)) (Ak 1 (fun (i0:Env)=>tv))))) (Ak 3 (An (o2 hpre) (Ak 3 (An (o3 hpre) (Ak 3 (An (o4 hpre) (Ak 4 tv))))))))) ?_
 refine swp_ret ?_
 exact zT [64,96,128] (An (Ak 1 tv) (An (An (An (zr 4) (An (zr (Hs.things (Twn.house t)).length) (fun (i1:Nat)=>(fun (y2:i1 < (Hs.things (Twn.house t)).length)=>(zr (cThg (thg (Twn.house t) i1))))))) (An (An (zr 3) (An (zr (Hs.marks (Twn.house t)).length) (fun (i3:Nat)=>(fun (y4:i3 < (Hs.marks (Twn.house t)).length)=>(zr (cMrk ((Hs.marks (Twn.house t)).getD i3 default))))))) (An (An (zr 1) (An (o5 hpre) (fun (i5:Nat)=>(fun (y6:i5 < (Twn.places t).length)=>(zr ([iv ((Twn.places t).getD i5 0)])))))) (An (An (zr 1) (An (o6 hpre) (fun (i7:Nat)=>(fun (y8:i7 < (Twn.carry t).length)=>(zr ([iv ((Twn.carry t).getD i7 0)])))))) (An (An (zr 1) (An (o7 hpre) (fun (i9:Nat)=>(fun (y10:i9 < (Twn.rooms t).length)=>(zr ([iv ((Twn.rooms t).getD i9 0)])))))) (An (An (zr (iv (Twn.minute t))) (zr nilN)) tv)))))) (An (zr true) (An (zr true) (zr true)))))
theorem t9 (t:Twn):Triple Try.prog 9 (s9 t):=by
 apply w9
 case o0 | o1 | o2 | o3 | o4=>rintro ⟨⟨a,b⟩,c,d,e⟩; omega
 all_goals (first | ((repeat intro _) <;> (try simp only [Bool.cond_true_left,Bool.cond_false_right,Bool.not_not,Bool.not_eq_true',Bool.not_eq_false',Bool.or_eq_true,Bool.or_eq_false_iff,Bool.and_eq_true,decide_eq_true_eq,decide_eq_false_iff_not,inI,big] at *) <;> first | (exact rfl) | omega | (exact ⟨Nat.zero_le _,fun j hj=>absurd hj (Nat.not_lt_zero j)⟩) | (simp_all; done) | (simp_all; omega)) | skip)
abbrev q27 (g:Hs) (l:List Int) (Pq:Prop):Prop:=(((Hs.things g).length<=64/\(Hs.marks g).length<=64/\l.length<=64) /\ ∀ (k:Nat),k < l.length->0<=l.getD k 0/\l.getD k 0 < (↑((Hs.things g).length):Int))->Pq
abbrev q28 (l:List Int) (x1:Nat) (Pq:Prop):Prop:=x1<=l.length->Pq
abbrev q29 (l:List Int) (x1:Nat) (Pq:Prop):Prop:=q28 l x1 (decide ((x1:Int) < (↑(l.length):Int))=true->Pq)
abbrev q2a (l:List Int) (x1:Nat) (Pq:Prop):Prop:=q28 l x1 (decide ((x1:Int) < (↑(l.length):Int))=false->Pq)
theorem w13 (g:Hs) (c:Int) (now:Int) (l:List Int)
 (o0:q27 g l ((Hs.things g).length<=65536))
 (o1:q27 g l ((Hs.marks g).length<=65536))
 (o2:q27 g l (0=(↑0:Int)))
 (o3:q27 g l ((Hs.marks g).length=(altMs g c now (List.take 0 l)).length))
 (o4:q27 g l (∀ (i4:Nat),i4 < (Hs.marks g).length->cMrk ((Hs.marks g).getD i4 default)=cMrk ((altMs g c now (List.take 0 l)).getD i4 default)))
 (o5:q27 g l (0<=l.length))
 (o6:q27 g l (∀ (x1:Nat),q29 l x1 (0<=(x1:Int))))
 (o7:q27 g l (∀ (x1:Nat),q29 l x1 ((x1:Int) < (↑(l.length):Int))))
 (o8:q27 g l (∀ (x1:Nat),q29 l x1 (0<=(x1:Int))))
 (o9:q27 g l (∀ (x1:Nat),q29 l x1 ((x1:Int) < (↑(l.length):Int))))
 (o10:q27 g l (∀ (x1:Nat),q29 l x1 (0<=l.getD x1 0)))
 (o11:q27 g l (∀ (x1:Nat),q29 l x1 (l.getD x1 0 < (↑((Hs.things g).length):Int))))
 (o12:q27 g l (∀ (x1:Nat),q29 l x1 ((altMs g c now (List.take x1 l)).length + 1<=65536)))
 (o13:q27 g l (∀ (x1:Nat),q29 l x1 (inI ((x1:Int) + 1))))
 (o14:q27 g l (∀ (x1:Nat),q29 l x1 ((x1:Int) + 1=(↑(x1 + 1):Int))))
 (o15:q27 g l (∀ (x1:Nat),q29 l x1 ((altMs g c now (List.take x1 l)).length + 1=(altMs g c now (List.take (x1 + 1) l)).length)))
 (o16:q27 g l (∀ (x1:Nat),q29 l x1 (∀ (i9:Nat),i9 < (altMs g c now (List.take x1 l)).length + 1->catF (altMs g c now (List.take x1 l)).length (fun (k:Nat)=>cMrk ((altMs g c now (List.take x1 l)).getD k default)) (fun (j:Nat)=>List.getD [[iv c,iv (l.getD x1 0),iv (max now (Thg.at_ (thg g (l.getD x1 0).toNat)))]] j (TI.za ti36)) i9=cMrk ((altMs g c now (List.take (x1 + 1) l)).getD i9 default))))
 (o17:q27 g l (∀ (x1:Nat),q29 l x1 (x1 + 1<=l.length)))
 (o18:q27 g l (∀ (x1:Nat),q29 l x1 (l.length - (x1 + 1) < l.length - x1)))
 (o19:q27 g l (∀ (x1:Nat),q2a l x1 ((Hs.things g).length=(Hs.things (altH g c now l)).length)))
 (o20:q27 g l (∀ (x1:Nat),q2a l x1 (∀ (i11:Nat),i11 < (Hs.things (altH g c now l)).length->cThg (thg g i11)=cThg (thg (altH g c now l) i11))))
 (o21:q27 g l (∀ (x1:Nat),q2a l x1 ((altMs g c now (List.take x1 l)).length=(Hs.marks (altH g c now l)).length)))
 (o22:q27 g l (∀ (x1:Nat),q2a l x1 (∀ (i13:Nat),i13 < (Hs.marks (altH g c now l)).length->cMrk ((altMs g c now (List.take x1 l)).getD i13 default)=cMrk ((Hs.marks (altH g c now l)).getD i13 default)))) :
  Triple Try.prog 13 (s13 g c now l):=by
 refine triple_of Try.func13 rfl Try.call13 T0_ok _ rfl rfl rfl rfl (Nat.le_of_ble_eq_true (by kernel_rfl)) (fun _ _ _ _ h=>h) ?_
 intro hpre C hC _ hE
 obtain ⟨P,w0,E0,av,hA,ro,df⟩:=C
 obtain ⟨rfl,rfl,rfl⟩:=hC
 refine swp_seq ?_
 refine zR [1,2,3,4,8] [0,8] (Ak 2 tv) ?_
 refine swp_seq ?_
 refine zC ([(1,CallSpec.eq (c13 g c now l 24) [true])]) [1,2,3,4,8,9] [0,8,32,24,25] (Ak 1 (An (An (An (zr (AV.agg (cHs g))) tv) (An (t11o (g) (24)) (An (An (o0 hpre) (o1 hpre)) (Ak 1 (fun (i0:Env)=>tv))))) (Ak 2 tv))) ?_
 refine swp_seq ?_
 refine swp_seq ?_
 refine zR [1,2,3,4,8,9,10] [0,8,32,24,25] (Ak 1 tv) ?_
 refine swp_block ?_
 refine zL (Hint.ann (h13 g c now l) [(1,iv c),(2,iv now),(3,aInts l),(4,AV.ptr 0 []),(8,AV.ptr 8 [])] [(0,OB.cells 25 (cHs g)),(8,OB.cells 25 [nilv,nilv])] 10056) (zE hE [24] [(0,.same 0),(8,.same 8),(5001,.same 32),(5000,.same 25)] [1,2,3] [0,8] (An (An (An (zr (iv c)) (zr true)) (An (An (zr (iv now)) (zr true)) (An (An (zr (aInts l)) (zr true)) (An (An (zr (some (Src.same 0))) (zr nilP)) (An (An (zr (some (Src.same 8))) (zr nilP)) (An (An (ci (o2 hpre)) (zr nilN)) (An (An (zr (some (Src.same 32))) (zr nilP)) tv))))))) (An (An (An (zr (OB.cells 25 (cHs g))) (zr true)) (An (An (zr (OB.cells 25 [nilv,nilv])) (zr true)) (An (An (zr 25) (An (An (An (zr 4) (An (zr (Hs.things g).length) (fun (i2:Nat)=>(fun (y3:i2 < (Hs.things g).length)=>(zr (cThg (thg g i2))))))) (An (zr (some (Src.same 25))) tv)) (zr true))) (An (An (zr 36) (An (zr 3) (An (o3 hpre) (fun (i4:Nat)=>(fun (y5:i4 < (Hs.marks g).length)=>(o4 hpre i4 y5)))))) tv)))) (An (zr true) (zr true))))) (o5 hpre) (fun (x1:Nat) hx1 => ?_)
 refine swp_seq ?_
 refine swp_seq ?_
 refine zR [1,2,3,4,8,10,9,16] [0,8,5001,5000] (Ak 4 tv) ?_
 refine zI (decide ((x1:Int) < (↑(l.length):Int))) (fun y6 => ?_) (fun y6 => ?_)
 ·refine swp_skip ?_
  refine swp_seq ?_
  refine swp_block ?_
  refine zR [1,2,3,4,8,10,9] [0,8,5001,10248] (Ak 5 (An (An (o6 hpre x1 hx1 y6) (o7 hpre x1 hx1 y6)) (Ak 6 (An (An (o8 hpre x1 hx1 y6) (o9 hpre x1 hx1 y6)) (Ak 1 (An (An (o10 hpre x1 hx1 y6) (o11 hpre x1 hx1 y6)) (Ak 5 (An (o12 hpre x1 hx1 y6) (Ak 2 tv))))))))) ?_
  refine zR [1,2,3,4,8,10,9] [0,8,5001,10248] (Ak 1 (An (o13 hpre x1 hx1 y6) (Ak 1 tv))) ?_
  exact zn (zE hE [] [(0,.same 0),(8,.same 8),(5001,.same 5001),(5000,.same 10248)] [1,2,3] [0,8] (An (An (An (zr (iv c)) (zr true)) (An (An (zr (iv now)) (zr true)) (An (An (zr (aInts l)) (zr true)) (An (An (zr (some (Src.same 0))) (zr nilP)) (An (An (zr (some (Src.same 8))) (zr nilP)) (An (An (ci (o14 hpre x1 hx1 y6)) (zr nilN)) (An (An (zr (some (Src.same 5001))) (zr nilP)) tv))))))) (An (An (An (zr (OB.cells 25 (cHs g))) (zr true)) (An (An (zr (OB.cells 25 [nilv,nilv])) (zr true)) (An (An (zr 25) (An (An (An (zr 4) (An (zr (Hs.things g).length) (fun (i7:Nat)=>(fun (y8:i7 < (Hs.things g).length)=>(zr (cThg (thg g i7))))))) (An (zr (some (Src.same 10248))) tv)) (zr true))) (An (An (zr 36) (An (zr 3) (An (o15 hpre x1 hx1 y6) (fun (i9:Nat)=>(fun (y10:i9 < (altMs g c now (List.take x1 l)).length + 1)=>(o16 hpre x1 hx1 y6 i9 y10)))))) tv)))) (An (zr true) (zr true))))) (o17 hpre x1 hx1 y6) (o18 hpre x1 hx1 y6)
 ·refine swp_exit ?_
  refine swp_seq ?_
  refine zR [8] [8,5000] (Ak 2 tv) ?_
  refine swp_ret ?_
  exact zT [5000] (An (Ak 1 tv) (An (An (An (zr 4) (An (o19 hpre x1 hx1 y6) (fun (i11:Nat)=>(fun (y12:i11 < (Hs.things (altH g c now l)).length)=>(o20 hpre x1 hx1 y6 i11 y12))))) (An (An (zr 3) (An (o21 hpre x1 hx1 y6) (fun (i13:Nat)=>(fun (y14:i13 < (Hs.marks (altH g c now l)).length)=>(o22 hpre x1 hx1 y6 i13 y14))))) tv)) (An (zr true) (An (zr true) (zr true)))))
theorem altMs_succ {g:Hs} {c now:Int} {l:List Int} {x:Nat} (hx:x < l.length):altMs g c now (l.take (x + 1))=altMs g c now (l.take x) ++ [altM g c now (l.getD x 0)]:=by
 unfold altMs
 rw [Go.Ab.take_succ l 0 hx,List.map_append,List.append_assoc]; rfl
theorem altMs_len (g:Hs) (c now:Int) (l:List Int):(altMs g c now l).length=g.marks.length + l.length:=by unfold altMs; rw [List.length_append,List.length_map]
theorem t13 (g:Hs) (c now:Int) (l:List Int):Triple Try.prog 13 (s13 g c now l):=by
  apply w13
  all_goals (try delta q27 q28 q29 q2a)
  all_goals (first | ((repeat intro _) <;> (try simp only [Bool.cond_true_left,Bool.cond_false_right,Bool.not_not,Bool.not_eq_true',Bool.not_eq_false',Bool.or_eq_true,Bool.or_eq_false_iff,Bool.and_eq_true,decide_eq_true_eq,decide_eq_false_iff_not,inI,big] at *) <;> first | (exact rfl) | omega | (exact ⟨Nat.zero_le _,fun j hj=>absurd hj (Nat.not_lt_zero j)⟩) | (simp_all; done) | (simp_all; omega)) | skip)
  case o3=>intro _; rw [altMs_len]; simp
  case o4=>intro _ i hi; show _=cMrk ((g.marks ++ []).getD i default); rw [List.append_nil]
  all_goals (intro hp x hx hl; obtain ⟨⟨p1,p2,p3⟩,p4⟩:=hp; simp only [decide_eq_true_eq,decide_eq_false_iff_not] at hl)
  case o12=>rw [altMs_len,List.length_take]; omega
  case o15=>rw [altMs_succ (by omega),List.length_append]; rfl
  case o16=>intro i hi; rw [altMs_succ (by omega)]; refine catF_one _ (altM g c now (l.getD x 0)) default (fun z=>cMrk z) rfl (fun _ _=>rfl) ?_ hi; rfl
  all_goals (have e : x = l.length := by omega
             subst e
             rw [List.take_length])
  case o21=>rfl
  case o22=>intro i hi; rfl
end Go.Ab
namespace Go.Sh
open Go.Ab
def costR (g:Hs) (l:List Int):Int:=l.foldl (fun a p=>a + (thg g p.toNat).cost) 0
def remL (g:Hs) (n:Nat):List Int:=outTo (n:Int) g.things.length
def remH (g:Hs) (c now:Int) (n:Nat):Hs:=altH g c now (remL g n)
def isRem (g:Hs) (c now:Int) (n:Nat):Bool:=decide (((lacks7 (remH g c now n) c).length:Int)=0)
def lessR (b:Out) (l:List Int) (n:Int):Bool:=decide (orI [n - outN b,(l.length:Int) - ((outL b).length:Int),cmpL l (outL b)] < 0)
def betterR (b:Out) (l:List Int) (n:Int):Bool := !b.isSome || lessR b l n
def stepR (g:Hs) (c now:Int) (b:Out) (n:Nat):Out:=if isRem g c now n && betterR b (remL g n) (costR g (remL g n)) then some (remL g n,costR g (remL g n)) else b
def bestR (g:Hs) (c now:Int) (n:Nat):Out:=(List.range n).foldl (stepR g c now) none
def leastR (g:Hs) (c now:Int):Out:=bestR g c now (2 ^ g.things.length)
theorem bestR_succ (g:Hs) (c now:Int) (n:Nat):bestR g c now (n + 1)=stepR g c now (bestR g c now n) n:=Go.Ab.foldl_range_succ _ _ _
theorem bestR_no {g:Hs} {c now:Int} {n:Nat} (h:isRem g c now n=false):bestR g c now (n + 1)=bestR g c now n:=by rw [bestR_succ,stepR,h]; rfl
theorem bestR_new {g:Hs} {c now:Int} {n:Nat} (h:isRem g c now n=true) (h2:betterR (bestR g c now n) (remL g n) (costR g (remL g n))=true):bestR g c now (n + 1)=some (remL g n,costR g (remL g n)):=by rw [bestR_succ,stepR,h,h2]; rfl
theorem bestR_old {g:Hs} {c now:Int} {n:Nat} (h2:betterR (bestR g c now n) (remL g n) (costR g (remL g n))=false):bestR g c now (n + 1)=bestR g c now n:=by rw [bestR_succ,stepR,h2,Bool.and_false]; rfl
theorem bestR_is (g:Hs) (c now:Int):∀ n,bestR g c now n=none ∨ ∃ j,j < n/\isRem g c now j=true/\bestR g c now n=some (remL g j,costR g (remL g j)):=by
 intro n
 induction n with
 | zero=>exact .inl rfl
 | succ n ih =>
  cases h:isRem g c now n with
  | false =>
   rw [bestR_no h]
   rcases ih with e | ⟨j,h1,h2,h3⟩
   ·exact .inl e
   ·exact .inr ⟨j,by omega,h2,h3⟩
  | true =>
   cases h2:betterR (bestR g c now n) (remL g n) (costR g (remL g n)) with
   | true=>exact .inr ⟨n,by omega,h,bestR_new h h2⟩
   | false =>
    rw [bestR_old h2]
    rcases ih with e | ⟨j,h1,h2,h3⟩
    ·exact .inl e
    ·exact .inr ⟨j,by omega,h2,h3⟩
theorem bestR_some {g:Hs} {c now:Int} {j:Nat} (hj:isRem g c now j=true):∀ n,j < n->(bestR g c now n).isSome=true:=by
  intro n
  induction n with
  | zero=>intro h; omega
  | succ n ih =>
    intro h
    cases hr:isRem g c now n with
    | false =>
      rw [bestR_no hr]
      exact ih (by rcases Nat.lt_or_ge j n with e | e
                   · exact e
                   · have:j=n:=by omega
                     subst this; rw [hj] at hr; cases hr)
    | true =>
      cases h2:betterR (bestR g c now n) (remL g n) (costR g (remL g n)) with
      | true=>rw [bestR_new hr h2]; rfl
      | false =>
        rw [bestR_old h2]
        cases e:bestR g c now n with
        | some _=>rfl
        | none=>rw [e] at h2; cases h2
theorem costR_snoc (g:Hs) (l:List Int) (k:Nat):costR g (l ++ [(k:Int)])=costR g l + (thg g k).cost:=by unfold costR; rw [List.foldl_append]; rfl
theorem costR_in {g:Hs} (hc:∀ i,i < g.things.length->0<=(thg g i).cost/\(thg g i).cost<=99) (w:Int):∀ k,k<=g.things.length->0<=costR g (outTo w k)/\costR g (outTo w k)<=99 * k:=by
 intro k
 induction k with
 | zero=>intro _; exact ⟨Int.le_refl _,Int.le_refl _⟩
 | succ k ih =>
  intro hk
  have h1:=ih (by omega)
  have h2:=hc k (by omega)
  cases hb:bitP w (k:Int) with
  | true=>rw [out_t hb,costR_snoc]; omega
  | false=>rw [out_f hb]; omega
theorem bestR_in {g:Hs} (hc:∀ i,i < g.things.length->0<=(thg g i).cost/\(thg g i).cost<=99) (hl:g.things.length<=8) (c now:Int) (n:Nat):0<=outN (bestR g c now n)/\outN (bestR g c now n)<=792/\(outL (bestR g c now n)).length<=8:=by
 rcases bestR_is g c now n with e | ⟨j,h1,h2,h3⟩
 ·rw [e]; exact ⟨Int.le_refl _,by show (0:Int)<=792; omega,Nat.zero_le _⟩
 ·rw [h3]
  have:=costR_in hc (j:Int) g.things.length (Nat.le_refl _)
  have h4:=out_len (j:Int) g.things.length
  exact ⟨this.1,by have:=this.2; show costR g (outTo (j:Int) g.things.length)<=792; omega,by show (outTo (j:Int) g.things.length).length<=8; omega⟩
end Go.Sh
namespace Go.Ab
open Go Go.RowKit Go.Proofs Go.Sh Go.En
def cRem (l:List Int) (n:Int):List AV:=[aInts l,iv n]
def remB (l:List Int) (n:Int):OB := .cells 89 (cRem l n)
def outB (b:Out):OB:=remB (outL b) (outN b)
def firB (b:Out):OB := .cells 4 [bv (!b.isSome)]
def s80 (g:Hs) (c now:Int):CallSpec:={ args:=[vHs g,iv c,iv now],res := .clo 111 [.rp (cHs g),.rp [iv c],.rp [iv now]] }
def p45 (g:Hs) (c now:Int):Prop:=okH g=true/\within c 0 2=true/\within now 0 99=true
def s45 (g:Hs) (c now:Int):CallSpec:={ args:=[vHs g,iv c,iv now],res := .agg (cRem (outL (leastR g c now)) (outN (leastR g c now))),pre:=p45 g c now }
def h45a (g:Hs) (c now:Int):Hint:={ X:=Nat,M:=fun n=>[(14,iv n)],H:=fun n=>[(8,outB (bestR g c now n)),(16,firB (bestR g c now n))],I:=fun n=>n<=2 ^ g.things.length,mu:=fun n=>2 ^ g.things.length - n,x0:=(0:Nat),nx:=fun n=>n + 1 }
def h45b (g:Hs) (c now:Int) (n:Nat):Hint:={ X:=Nat,M:=fun k=>[(21,iv k),(6,.ptr 5001 []),(7,.ptr 5002 [])],H:=fun k=>[(5000,rowI 3 (outTo (n:Int) k)),(5001,.cells 89 [.vec 5000,iv (costR g (outTo (n:Int) k))]),(5002,.cells 25 [.sl 4 g.things.length (fun i=>cThg (thg g i)),aMrks (altMs g c now (outTo (n:Int) k))])],I:=fun k=>k<=g.things.length,mu:=fun k=>g.things.length - k,x0:=(0:Nat),nx:=fun k=>k + 1 }
def r45 (g:Hs) (c now:Int):RangeH:={ J:=Nat,ok:=fun j=>j < 2 ^ g.things.length/\isRem g c now j=true,Y:=fun j=>{ args:=[.agg (cRem (remL g j) (costR g (remL g j)))],hin:=[(8,outB (bestR g c now j)),(16,firB (bestR g c now j))],res:=bv true,hout:=[(8,outB (bestR g c now (j + 1))),(16,firB (bestR g c now (j + 1)))] },hp:=[(8,outB (leastR g c now)),(16,firB (leastR g c now))] }
def y45 (g:Hs) (c now:Int) (n:Nat):CallSpec:=(r45 g c now).Y n
def c45f (g:Hs) (c now:Int) (n:Nat):CallSpec:=s112 (remH g c now n) c
def c45l (g:Hs) (c now:Int) (n:Nat):CallSpec:=s113 (remH g c now n) c (tS (remH g c now n) c (remH g c now n).things.length) (tB (remH g c now n) c (remH g c now n).things.length)
def c45c (g:Hs) (c now:Int) (n:Nat):CallSpec:=s82 (remL g n) (outL (bestR g c now n))
def c45o (g:Hs) (c now:Int) (n:Nat):CallSpec:=s81 [costR g (remL g n) - outN (bestR g c now n),((remL g n).length:Int) - ((outL (bestR g c now n)).length:Int),cmpL (remL g n) (outL (bestR g c now n))]
def s39 (g:Hs) (c now:Int):CallSpec:={ args:=[vHs g,iv c,iv now],res := .tup [iv (outN (leastR g c now)),iv 0],pre:=p45 g c now }
def s10 (g:Hs) (c now:Int):CallSpec:={ args:=[vHs g,iv c,iv now],res := .tup [aInts (outL (leastR g c now)),iv 0],pre:=p45 g c now }
end Go.Ab
namespace Go.Ab
open Go Go.RowKit Go.Proofs Go.Sh Go.En
theorem w80 (g:Hs) (c:Int) (now:Int) :
  Triple Try.prog 80 (s80 g c now):=by
 refine triple_of Try.func80 rfl Try.call80 T0_ok _ rfl rfl rfl rfl (Nat.le_of_ble_eq_true (by kernel_rfl)) (fun _ _ _ _ h=>h) ?_
 intro _ C hC _ hE
 obtain ⟨P,w0,E0,av,hA,ro,df⟩:=C
 obtain ⟨rfl,rfl,rfl⟩:=hC
 refine swp_seq ?_
 refine zR [3,4,5] [0,8,16] (Ak 4 tv) ?_
 refine swp_seq ?_
 refine swp_ent (zF 0) ?_
 refine swp_ent (zF 8) ?_
 refine swp_ent (zF 16) ?_
 refine zR [6] [] (Ak 2 tv) ?_
 refine swp_ret ?_
 exact zT [] (An (Ak 1 tv) (An (An (zr 111) (An (An (zr (AV.rp (cHs g))) (zr nilN)) (An (An (zr (AV.rp [iv c])) (zr nilN)) (An (An (zr (AV.rp [iv now])) (zr nilN)) tv)))) (An (zr true) (An (zr true) (zr true)))))
theorem t80 (g:Hs) (c now:Int):Triple Try.prog 80 (s80 g c now):=by
 apply w80
 all_goals (first | ((repeat intro _) <;> (try simp only [Bool.cond_true_left,Bool.cond_false_right,Bool.not_not,Bool.not_eq_true',Bool.not_eq_false',Bool.or_eq_true,Bool.or_eq_false_iff,Bool.and_eq_true,decide_eq_true_eq,decide_eq_false_iff_not,inI,big] at *) <;> first | (exact rfl) | omega | (exact ⟨Nat.zero_le _,fun j hj=>absurd hj (Nat.not_lt_zero j)⟩) | (simp_all; done) | (simp_all; omega)) | skip)
abbrev q2b (g:Hs) (c:Int) (now:Int) (Pq:Prop):Prop:=p45 g c now->Pq
abbrev q2c (g:Hs) (x2:Nat) (Pq:Prop):Prop:=x2<=2 ^ (Hs.things g).length->Pq
abbrev q2d (g:Hs) (x2:Nat) (Pq:Prop):Prop:=q2c g x2 (decide ((x2:Int) < 1 * 2 ^ (Hs.things g).length)=true->Pq)
abbrev q2e (g:Hs) (x4:Nat) (Pq:Prop):Prop:=x4<=(Hs.things g).length->Pq
abbrev q2f (g:Hs) (x4:Nat) (Pq:Prop):Prop:=q2e g x4 (decide ((x4:Int) < (↑((Hs.things g).length):Int))=true->Pq)
abbrev q2g (g:Hs) (x2:Nat) (x4:Nat) (Pq:Prop):Prop:=q2f g x4 (decide ((x2:Int) / 2 ^ x4 % 2=0)=true->Pq)
abbrev q2h (g:Hs) (x2:Nat) (x4:Nat) (Pq:Prop):Prop:=q2f g x4 (decide ((x2:Int) / 2 ^ x4 % 2=0)=false->Pq)
abbrev q2i (g:Hs) (x4:Nat) (Pq:Prop):Prop:=q2e g x4 (decide ((x4:Int) < (↑((Hs.things g).length):Int))=false->Pq)
abbrev q2j (g:Hs) (c:Int) (now:Int) (x2:Nat) (x4:Nat) (Pq:Prop):Prop:=q2i g x4 (decide ((↑((thTo (lackP (remH g c now x2) (tS (remH g c now x2) c (Hs.things (remH g c now x2)).length)) (Hs.things (remH g c now x2)).length).length):Int)=0)=false->Pq)
abbrev q2k (g:Hs) (c:Int) (now:Int) (x2:Nat) (x4:Nat) (Pq:Prop):Prop:=q2i g x4 ((bif decide ((↑((thTo (lackP (remH g c now x2) (tS (remH g c now x2) c (Hs.things (remH g c now x2)).length)) (Hs.things (remH g c now x2)).length).length):Int)=0) then false else false)=true->Pq)
abbrev q2l (g:Hs) (c:Int) (now:Int) (x2:Nat) (x4:Nat) (Pq:Prop):Prop:=q2i g x4 ((bif decide ((↑((thTo (lackP (remH g c now x2) (tS (remH g c now x2) c (Hs.things (remH g c now x2)).length)) (Hs.things (remH g c now x2)).length).length):Int)=0) then false else false)=false->Pq)
abbrev q2m (g:Hs) (x2:Nat) (Pq:Prop):Prop:=q2c g x2 (decide ((x2:Int) < 1 * 2 ^ (Hs.things g).length)=false->Pq)
abbrev q2n (g:Hs) (c:Int) (now:Int) (j1:Nat) (Pq:Prop):Prop:=j1 < 2 ^ (Hs.things g).length/\isRem g c now j1=true->True->Pq
abbrev q2o (g:Hs) (c:Int) (now:Int) (j1:Nat) (Pq:Prop):Prop:=q2n g c now j1 ((!!Option.isSome (bestR g c now j1))=true->Pq)
abbrev q2p (g:Hs) (c:Int) (now:Int) (j1:Nat) (Pq:Prop):Prop:=q2n g c now j1 ((bif !Option.isSome (bestR g c now j1) then true else decide (orI [costR g (remL g j1) - outN (bestR g c now j1),(↑((remL g j1).length):Int) - (↑((outL (bestR g c now j1)).length):Int),cmpL (remL g j1) (outL (bestR g c now j1))] < 0))=true->Pq)
abbrev q2q (g:Hs) (c:Int) (now:Int) (j1:Nat) (Pq:Prop):Prop:=q2n g c now j1 ((bif !Option.isSome (bestR g c now j1) then true else decide (orI [costR g (remL g j1) - outN (bestR g c now j1),(↑((remL g j1).length):Int) - (↑((outL (bestR g c now j1)).length):Int),cmpL (remL g j1) (outL (bestR g c now j1))] < 0))=false->Pq)
theorem w45 (g:Hs) (c:Int) (now:Int)
 (o0:q2b g c now (0<=(↑((Hs.things g).length):Int)))
 (o1:q2b g c now ((↑((Hs.things g).length):Int)<=62))
 (o2:q2b g c now (inI (1 * 2 ^ (Hs.things g).length)))
 (o3:q2b g c now (0=(↑0:Int)))
 (o4:q2b g c now ((outL (bestR g c now 0)).length=0))
 (o5:q2b g c now (0=outN (bestR g c now 0)))
 (o6:q2b g c now (true = !Option.isSome (bestR g c now 0)))
 (o7:q2b g c now (0<=2 ^ List.length (Hs.things g)))
 (o8:q2b g c now (∀ (x2:Nat),q2d g x2 (0=(↑0:Int))))
 (o9:q2b g c now (∀ (x2:Nat),q2d g x2 ((outTo (x2:Int) 0).length=0)))
 (o10:q2b g c now (∀ (x2:Nat),q2d g x2 (0=costR g (outTo (x2:Int) 0))))
 (o11:q2b g c now (∀ (x2:Nat),q2d g x2 ((Hs.marks g).length=(altMs g c now (outTo (x2:Int) 0)).length)))
 (o12:q2b g c now (∀ (x2:Nat),q2d g x2 (∀ (i7:Nat),i7 < (altMs g c now (outTo (x2:Int) 0)).length->cMrk ((Hs.marks g).getD i7 default)=cMrk ((altMs g c now (outTo (x2:Int) 0)).getD i7 default))))
 (o13:q2b g c now (∀ (x2:Nat),q2d g x2 (0<=(Hs.things g).length)))
 (o14:q2b g c now (∀ (x2:Nat),q2d g x2 (∀ (x4:Nat),q2f g x4 (0<=(x4:Int)))))
 (o15:q2b g c now (∀ (x2:Nat),q2d g x2 (∀ (x4:Nat),q2f g x4 ((x4:Int) < (↑((Hs.things g).length):Int)))))
 (o16:q2b g c now (∀ (x2:Nat),q2d g x2 (∀ (x4:Nat),q2f g x4 (0<=(x4:Int)))))
 (o17:q2b g c now (∀ (x2:Nat),q2d g x2 (∀ (x4:Nat),q2f g x4 ((x4:Int)<=62))))
 (o18:q2b g c now (∀ (x2:Nat),q2d g x2 (∀ (x4:Nat),q2f g x4 (0<=(x2:Int) / 2 ^ x4))))
 (o19:q2b g c now (∀ (x2:Nat),q2d g x2 (∀ (x4:Nat),q2f g x4 (inI ((x2:Int) / 2 ^ x4)))))
 (o20:q2b g c now (∀ (x2:Nat),q2d g x2 (∀ (x4:Nat),q2g g x2 x4 (inI ((x4:Int) + 1)))))
 (o21:q2b g c now (∀ (x2:Nat),q2d g x2 (∀ (x4:Nat),q2g g x2 x4 ((x4:Int) + 1=(↑(x4 + 1):Int)))))
 (o22:q2b g c now (∀ (x2:Nat),q2d g x2 (∀ (x4:Nat),q2g g x2 x4 ((outTo (x2:Int) x4).length=(outTo (x2:Int) (x4 + 1)).length))))
 (o23:q2b g c now (∀ (x2:Nat),q2d g x2 (∀ (x4:Nat),q2g g x2 x4 (∀ (i11:Nat),i11 < (outTo (x2:Int) x4).length -> [iv ((outTo (x2:Int) x4).getD i11 0)] = [iv ((outTo (x2:Int) (x4 + 1)).getD i11 0)]))))
 (o24:q2b g c now (∀ (x2:Nat),q2d g x2 (∀ (x4:Nat),q2g g x2 x4 (costR g (outTo (x2:Int) x4)=costR g (outTo (x2:Int) (x4 + 1))))))
 (o25:q2b g c now (∀ (x2:Nat),q2d g x2 (∀ (x4:Nat),q2g g x2 x4 ((altMs g c now (outTo (x2:Int) x4)).length=(altMs g c now (outTo (x2:Int) (x4 + 1))).length))))
 (o26:q2b g c now (∀ (x2:Nat),q2d g x2 (∀ (x4:Nat),q2g g x2 x4 (∀ (i15:Nat),i15 < (altMs g c now (outTo (x2:Int) (x4 + 1))).length->cMrk ((altMs g c now (outTo (x2:Int) x4)).getD i15 default)=cMrk ((altMs g c now (outTo (x2:Int) (x4 + 1))).getD i15 default)))))
 (o27:q2b g c now (∀ (x2:Nat),q2d g x2 (∀ (x4:Nat),q2g g x2 x4 (x4 + 1<=(Hs.things g).length))))
 (o28:q2b g c now (∀ (x2:Nat),q2d g x2 (∀ (x4:Nat),q2g g x2 x4 ((Hs.things g).length - (x4 + 1) < (Hs.things g).length - x4))))
 (o29:q2b g c now (∀ (x2:Nat),q2d g x2 (∀ (x4:Nat),q2h g x2 x4 ((outTo (x2:Int) x4).length + 1<=65536))))
 (o30:q2b g c now (∀ (x2:Nat),q2d g x2 (∀ (x4:Nat),q2h g x2 x4 (inI (costR g (outTo (x2:Int) x4) + Thg.cost (thg g x4))))))
 (o31:q2b g c now (∀ (x2:Nat),q2d g x2 (∀ (x4:Nat),q2h g x2 x4 ((altMs g c now (outTo (x2:Int) x4)).length + 1<=65536))))
 (o32:q2b g c now (∀ (x2:Nat),q2d g x2 (∀ (x4:Nat),q2h g x2 x4 (inI ((x4:Int) + 1)))))
 (o33:q2b g c now (∀ (x2:Nat),q2d g x2 (∀ (x4:Nat),q2h g x2 x4 ((x4:Int) + 1=(↑(x4 + 1):Int)))))
 (o34:q2b g c now (∀ (x2:Nat),q2d g x2 (∀ (x4:Nat),q2h g x2 x4 ((outTo (x2:Int) x4).length + 1=(outTo (x2:Int) (x4 + 1)).length))))
 (o35:q2b g c now (∀ (x2:Nat),q2d g x2 (∀ (x4:Nat),q2h g x2 x4 (∀ (i17:Nat),i17 < (outTo (x2:Int) x4).length + 1->catF (outTo (x2:Int) x4).length (fun (i:Nat)=>[iv ((outTo (x2:Int) x4).getD i 0)]) (fun (j:Nat)=>List.getD [[iv (x4:Int)]] j (TI.za ti3)) i17 = [iv ((outTo (x2:Int) (x4 + 1)).getD i17 0)]))))
 (o36:q2b g c now (∀ (x2:Nat),q2d g x2 (∀ (x4:Nat),q2h g x2 x4 (costR g (outTo (x2:Int) x4) + Thg.cost (thg g x4)=costR g (outTo (x2:Int) (x4 + 1))))))
 (o37:q2b g c now (∀ (x2:Nat),q2d g x2 (∀ (x4:Nat),q2h g x2 x4 ((altMs g c now (outTo (x2:Int) x4)).length + 1=(altMs g c now (outTo (x2:Int) (x4 + 1))).length))))
 (o38:q2b g c now (∀ (x2:Nat),q2d g x2 (∀ (x4:Nat),q2h g x2 x4 (∀ (i21:Nat),i21 < (altMs g c now (outTo (x2:Int) (x4 + 1))).length->catF (altMs g c now (outTo (x2:Int) x4)).length (fun (i:Nat)=>cMrk ((altMs g c now (outTo (x2:Int) x4)).getD i default)) (fun (j:Nat)=>List.getD [[iv c,iv (x4:Int),iv (max now (Thg.at_ (thg g x4)))]] j (TI.za ti36)) i21=cMrk ((altMs g c now (outTo (x2:Int) (x4 + 1))).getD i21 default)))))
 (o39:q2b g c now (∀ (x2:Nat),q2d g x2 (∀ (x4:Nat),q2h g x2 x4 (x4 + 1<=(Hs.things g).length))))
 (o40:q2b g c now (∀ (x2:Nat),q2d g x2 (∀ (x4:Nat),q2h g x2 x4 ((Hs.things g).length - (x4 + 1) < (Hs.things g).length - x4))))
 (o41:q2b g c now (∀ (x2:Nat),q2d g x2 (∀ (x4:Nat),q2i g x4 ((outTo (x2:Int) x4).length=(remL g x2).length))))
 (o42:q2b g c now (∀ (x2:Nat),q2d g x2 (∀ (x4:Nat),q2i g x4 (∀ (i23:Nat),i23 < (remL g x2).length -> [iv ((outTo (x2:Int) x4).getD i23 0)] = [iv ((remL g x2).getD i23 0)]))))
 (o43:q2b g c now (∀ (x2:Nat),q2d g x2 (∀ (x4:Nat),q2i g x4 (costR g (outTo (x2:Int) x4)=costR g (remL g x2)))))
 (o44:q2b g c now (∀ (x2:Nat),q2d g x2 (∀ (x4:Nat),q2i g x4 ((Hs.things g).length=(Hs.things (remH g c now x2)).length))))
 (o45:q2b g c now (∀ (x2:Nat),q2d g x2 (∀ (x4:Nat),q2i g x4 (∀ (i25:Nat),i25 < (Hs.things (remH g c now x2)).length->cThg (thg g i25)=cThg (thg (remH g c now x2) i25)))))
 (o46:q2b g c now (∀ (x2:Nat),q2d g x2 (∀ (x4:Nat),q2i g x4 ((altMs g c now (outTo (x2:Int) x4)).length=(Hs.marks (remH g c now x2)).length))))
 (o47:q2b g c now (∀ (x2:Nat),q2d g x2 (∀ (x4:Nat),q2i g x4 (∀ (i27:Nat),i27 < (Hs.marks (remH g c now x2)).length->cMrk ((altMs g c now (outTo (x2:Int) x4)).getD i27 default)=cMrk ((Hs.marks (remH g c now x2)).getD i27 default)))))
 (o48:q2b g c now (∀ (x2:Nat),q2d g x2 (∀ (x4:Nat),q2i g x4 (okW (remH g c now x2)=true))))
 (o49:q2b g c now (∀ (x2:Nat),q2d g x2 (∀ (x4:Nat),q2i g x4 ((Hs.things (remH g c now x2)).length<=8))))
 (o50:q2b g c now (∀ (x2:Nat),q2d g x2 (∀ (x4:Nat),q2i g x4 (decide ((↑((thTo (lackP (remH g c now x2) (tS (remH g c now x2) c (Hs.things (remH g c now x2)).length)) (Hs.things (remH g c now x2)).length).length):Int)=0)=true->x2 < 2 ^ (Hs.things g).length/\isRem g c now x2=true))))
 (o51:q2b g c now (∀ (x2:Nat),q2d g x2 (∀ (x4:Nat),q2j g c now x2 x4 (some (OB.cells 89 [aInts (outL (bestR g c now x2)),iv (outN (bestR g c now x2))])=some (OB.cells 89 [aInts (outL (bestR g c now (x2 + 1))),iv (outN (bestR g c now (x2 + 1)))])))))
 (o52:q2b g c now (∀ (x2:Nat),q2d g x2 (∀ (x4:Nat),q2j g c now x2 x4 (some (OB.cells 4 [bv !Option.isSome (bestR g c now x2)])=some (OB.cells 4 [bv !Option.isSome (bestR g c now (x2 + 1))])))))
 (o53:q2b g c now (∀ (x2:Nat),q2d g x2 (∀ (x4:Nat),q2j g c now x2 x4 (some (OB.cells 89 [aInts (outL (bestR g c now x2)),iv (outN (bestR g c now x2))])=some (OB.cells 89 [aInts (outL (bestR g c now (x2 + 1))),iv (outN (bestR g c now (x2 + 1)))])))))
 (o54:q2b g c now (∀ (x2:Nat),q2d g x2 (∀ (x4:Nat),q2j g c now x2 x4 (some (OB.cells 4 [bv !Option.isSome (bestR g c now x2)])=some (OB.cells 4 [bv !Option.isSome (bestR g c now (x2 + 1))])))))
 (o55:q2b g c now (∀ (x2:Nat),q2d g x2 (∀ (x4:Nat),q2k g c now x2 x4 ((outL (bestR g c now (x2 + 1))).length=(outL (leastR g c now)).length))))
 (o56:q2b g c now (∀ (x2:Nat),q2d g x2 (∀ (x4:Nat),q2k g c now x2 x4 (∀ (i42:Nat),i42 < (outL (leastR g c now)).length -> [iv ((outL (bestR g c now (x2 + 1))).getD i42 0)] = [iv ((outL (leastR g c now)).getD i42 0)]))))
 (o57:q2b g c now (∀ (x2:Nat),q2d g x2 (∀ (x4:Nat),q2k g c now x2 x4 (outN (bestR g c now (x2 + 1))=outN (leastR g c now)))))
 (o58:q2b g c now (∀ (x2:Nat),q2d g x2 (∀ (x4:Nat),q2k g c now x2 x4 ((!Option.isSome (bestR g c now (x2 + 1))) = !Option.isSome (leastR g c now)))))
 (o59:q2b g c now (∀ (x2:Nat),q2d g x2 (∀ (x4:Nat),q2l g c now x2 x4 (inI ((x2:Int) + 1)))))
 (o60:q2b g c now (∀ (x2:Nat),q2d g x2 (∀ (x4:Nat),q2l g c now x2 x4 ((x2:Int) + 1=(↑(x2 + 1):Int)))))
 (o61:q2b g c now (∀ (x2:Nat),q2d g x2 (∀ (x4:Nat),q2l g c now x2 x4 (x2 + 1<=2 ^ (Hs.things g).length))))
 (o62:q2b g c now (∀ (x2:Nat),q2d g x2 (∀ (x4:Nat),q2l g c now x2 x4 (2 ^ (Hs.things g).length - (x2 + 1) < 2 ^ (Hs.things g).length - x2))))
 (o63:q2b g c now (∀ (x2:Nat),q2m g x2 ((outL (bestR g c now x2)).length=(outL (leastR g c now)).length)))
 (o64:q2b g c now (∀ (x2:Nat),q2m g x2 (∀ (i44:Nat),i44 < (outL (leastR g c now)).length -> [iv ((outL (bestR g c now x2)).getD i44 0)] = [iv ((outL (leastR g c now)).getD i44 0)])))
 (o65:q2b g c now (∀ (x2:Nat),q2m g x2 (outN (bestR g c now x2)=outN (leastR g c now))))
 (o66:q2b g c now (∀ (x2:Nat),q2m g x2 ((!Option.isSome (bestR g c now x2)) = !Option.isSome (leastR g c now))))
 (o67:q2b g c now (∀ (j1:Nat),q2o g c now j1 (inI (costR g (remL g j1) - outN (bestR g c now j1)))))
 (o68:q2b g c now (∀ (j1:Nat),q2o g c now j1 (inI ((↑((remL g j1).length):Int) - (↑((outL (bestR g c now j1)).length):Int)))))
 (o69:q2b g c now (∀ (j1:Nat),q2o g c now j1 ((remL g j1).length<=65536)))
 (o70:q2b g c now (∀ (j1:Nat),q2o g c now j1 ((outL (bestR g c now j1)).length<=65536)))
 (o71:q2b g c now (∀ (j1:Nat),q2o g c now j1 (3=List.length [costR g (remL g j1) - outN (bestR g c now j1),(↑((remL g j1).length):Int) - (↑((outL (bestR g c now j1)).length):Int),cmpL (remL g j1) (outL (bestR g c now j1))])))
 (o72:q2b g c now (∀ (j1:Nat),q2o g c now j1 (∀ (i84:Nat),i84 < List.length [costR g (remL g j1) - outN (bestR g c now j1),(↑((remL g j1).length):Int) - (↑((outL (bestR g c now j1)).length):Int),cmpL (remL g j1) (outL (bestR g c now j1))]->List.getD [[iv (costR g (remL g j1) - outN (bestR g c now j1))],[iv ((↑((remL g j1).length):Int) - (↑((outL (bestR g c now j1)).length):Int))],[iv (cmpL (remL g j1) (outL (bestR g c now j1)))]] i84 (TI.za ti3) = [iv (List.getD [costR g (remL g j1) - outN (bestR g c now j1),(↑((remL g j1).length):Int) - (↑((outL (bestR g c now j1)).length):Int),cmpL (remL g j1) (outL (bestR g c now j1))] i84 0)])))
 (o73:q2b g c now (∀ (j1:Nat),q2o g c now j1 (List.length [costR g (remL g j1) - outN (bestR g c now j1),(↑((remL g j1).length):Int) - (↑((outL (bestR g c now j1)).length):Int),cmpL (remL g j1) (outL (bestR g c now j1))]<=65536)))
 (o74:q2b g c now (∀ (j1:Nat),q2n g c now j1 ((!Option.isSome (bestR g c now j1))=false->(!!Option.isSome (bestR g c now j1))=true)))
 (o75:q2b g c now (∀ (j1:Nat),q2p g c now j1 ((remL g j1).length=(outL (bestR g c now (j1 + 1))).length)))
 (o76:q2b g c now (∀ (j1:Nat),q2p g c now j1 (∀ (i92:Nat),i92 < (outL (bestR g c now (j1 + 1))).length -> [iv ((remL g j1).getD i92 0)] = [iv ((outL (bestR g c now (j1 + 1))).getD i92 0)])))
 (o77:q2b g c now (∀ (j1:Nat),q2p g c now j1 (costR g (remL g j1)=outN (bestR g c now (j1 + 1)))))
 (o78:q2b g c now (∀ (j1:Nat),q2p g c now j1 (false = !Option.isSome (bestR g c now (j1 + 1)))))
 (o79:q2b g c now (∀ (j1:Nat),q2q g c now j1 ((outL (bestR g c now j1)).length=(outL (bestR g c now (j1 + 1))).length)))
 (o80:q2b g c now (∀ (j1:Nat),q2q g c now j1 (∀ (i94:Nat),i94 < (outL (bestR g c now (j1 + 1))).length -> [iv ((outL (bestR g c now j1)).getD i94 0)] = [iv ((outL (bestR g c now (j1 + 1))).getD i94 0)])))
 (o81:q2b g c now (∀ (j1:Nat),q2q g c now j1 (outN (bestR g c now j1)=outN (bestR g c now (j1 + 1)))))
 (o82:q2b g c now (∀ (j1:Nat),q2q g c now j1 ((!Option.isSome (bestR g c now j1)) = !Option.isSome (bestR g c now (j1 + 1))))) :
  Triple Try.prog 45 (s45 g c now):=by
 refine triple_of Try.func45 rfl Try.call45 T0_ok _ rfl rfl rfl rfl (Nat.le_of_ble_eq_true (by kernel_rfl)) (fun _ _ _ _ h=>h) ?_
 intro hpre C hC _ hE
 obtain ⟨P,w0,E0,av,hA,ro,df⟩:=C
 obtain ⟨rfl,rfl,rfl⟩:=hC
 refine swp_seq ?_
 refine zR [1,2,3,6] [0,8] (Ak 2 tv) ?_
 refine swp_seq ?_
 refine zR [1,2,3,6,7] [0,8,16] (Ak 2 tv) ?_
 refine swp_seq ?_
 refine swp_seq ?_
 refine zC ([(3,CallSpec.eq (s80 g c now) [true,true,true])]) [6,7,12] [8,16] (Ak 3 (An (An (An (zr (AV.agg (cHs g))) (An (zr (iv c)) (An (zr (iv now)) tv))) (An (t80 (g) (c) (now)) (Ak 2 (fun (i0:Env)=>tv)))) tv)) ?_
 refine swp_block ?_
 refine zG (r45 g c now) 64 2000064 0 [6,7] ([AV.rp (cHs g),AV.rp [iv c],AV.rp [iv now]]) Try.func111 Try.call111 rfl (fun C hC hY1 hE => ?_) (fun (j1:Nat) hj1 hp1 C hC hE => ?_) ?_
 ·obtain ⟨P,w0,E0,av,hA,ro,df⟩:=C
  subst hC
  refine swp_seq ?_
  refine zR [0,1,2,3,13,14] [8,16] (Ak 3 (An (An (o0 hpre) (An (o1 hpre) (o2 hpre))) (Ak 1 tv))) ?_
  refine swp_block ?_
  refine zL (Hint.ann (h45a g c now) [(0,AV.fn 0),(1,AV.rp (cHs g)),(2,AV.rp [iv c]),(3,AV.rp [iv now]),(13,iv (1 * 2 ^ (Hs.things g).length))] [] 10104) (zEn 64 hE [] [(8,.same 8),(16,.same 16)] [0,1,2,3,13] [] (An (An (An (zr (AV.fn 0)) (zr true)) (An (An (zr (AV.rp (cHs g))) (zr true)) (An (An (zr (AV.rp [iv c])) (zr true)) (An (An (zr (AV.rp [iv now])) (zr true)) (An (An (zr (iv (1 * 2 ^ (Hs.things g).length))) (zr true)) (An (An (ci (o3 hpre)) (zr nilN)) tv)))))) (An (An (An (zr 89) (An (An (o4 hpre) (An (An (ci (o5 hpre)) (zr nilN)) tv)) (zr true))) (An (An (zr 4) (An (An (An (cb (o6 hpre)) (zr nilN)) tv) (zr true))) tv)) (An (zr true) (zr true))))) (o7 hpre) (fun (x2:Nat) hx2 => ?_)
  refine swp_seq ?_
  refine zR [0,1,2,3,13,14,15] [8,16] (Ak 1 tv) ?_
  refine swp_seq ?_
  refine zI (decide ((x2:Int) < 1 * 2 ^ (Hs.things g).length)) (fun y3 => ?_) (fun y3 => ?_)
  ·refine swp_skip ?_
   refine swp_seq ?_
   refine swp_block ?_
   refine swp_seq ?_
   refine zR [0,1,2,3,13,14,5] [8,16] (Ak 2 tv) ?_
   refine swp_seq ?_
   refine zR [0,1,2,3,13,14,5,6] [8,16,10128] (Ak 1 tv) ?_
   refine swp_seq ?_
   refine zR [0,1,2,3,13,14,5,6,7] [8,16,10128,10144] (Ak 3 tv) ?_
   refine swp_seq ?_
   refine swp_seq ?_
   refine zR [0,1,2,3,13,14,5,6,7,19,20,21] [8,16,10128,10144] (Ak 4 tv) ?_
   refine swp_block ?_
   refine zL (Hint.ann (h45b g c now x2) [(0,AV.fn 0),(1,AV.rp (cHs g)),(2,AV.rp [iv c]),(3,AV.rp [iv now]),(13,iv (1 * 2 ^ (Hs.things g).length)),(14,iv (x2:Int)),(5,iv (x2:Int)),(19,AV.sl 4 (Hs.things g).length fun (i:Nat)=>cThg (thg g i)),(20,iv (↑((Hs.things g).length):Int))] [(8,OB.cells 89 [aInts (outL (bestR g c now x2)),iv (outN (bestR g c now x2))]),(16,OB.cells 4 [bv !Option.isSome (bestR g c now x2)])] 20192) (zEn 64 hE [] [(8,.same 8),(16,.same 16),(5001,.same 10128),(5000,.nil),(5002,.same 10144)] [0,1,2,3,13,14,5,19,20] [8,16] (An (An (An (zr (AV.fn 0)) (zr true)) (An (An (zr (AV.rp (cHs g))) (zr true)) (An (An (zr (AV.rp [iv c])) (zr true)) (An (An (zr (AV.rp [iv now])) (zr true)) (An (An (zr (iv (1 * 2 ^ (Hs.things g).length))) (zr true)) (An (An (zr (iv (x2:Int))) (zr true)) (An (An (zr (iv (x2:Int))) (zr true)) (An (An (zr (AV.sl 4 (Hs.things g).length fun (i:Nat)=>cThg (thg g i))) (zr true)) (An (An (zr (iv (↑((Hs.things g).length):Int))) (zr true)) (An (An (ci (o8 hpre x2 hx2 y3)) (zr nilN)) (An (An (zr (some (Src.same 10128))) (zr nilP)) (An (An (zr (some (Src.same 10144))) (zr nilP)) tv)))))))))))) (An (An (An (zr (OB.cells 89 [aInts (outL (bestR g c now x2)),iv (outN (bestR g c now x2))])) (zr true)) (An (An (zr (OB.cells 4 [bv !Option.isSome (bestR g c now x2)])) (zr true)) (An (o9 hpre x2 hx2 y3) (An (An (zr 89) (An (An (zr (some Src.nil)) (An (An (ci (o10 hpre x2 hx2 y3)) (zr nilN)) tv)) (zr true))) (An (An (zr 25) (An (An (An (zr 4) (An (zr (Hs.things g).length) (fun (i5:Nat)=>(fun (y6:i5 < (Hs.things g).length)=>(zr (cThg (thg g i5))))))) (An (An (zr 3) (An (o11 hpre x2 hx2 y3) (fun (i7:Nat)=>(fun (y8:i7 < (altMs g c now (outTo (x2:Int) 0)).length)=>(o12 hpre x2 hx2 y3 i7 y8))))) tv)) (zr true))) tv))))) (An (zr true) (zr true))))) (o13 hpre x2 hx2 y3) (fun (x4:Nat) hx4 => ?_)
   refine swp_seq ?_
   refine zR [0,1,2,3,13,14,5,19,20,21,6,7,22] [8,16,5001,5002,5000] (Ak 1 tv) ?_
   refine swp_seq ?_
   refine zI (decide ((x4:Int) < (↑((Hs.things g).length):Int))) (fun y9 => ?_) (fun y9 => ?_)
   ·refine swp_skip ?_
    refine swp_seq ?_
    refine swp_block ?_
    refine swp_seq ?_
    refine zR [0,1,2,3,13,14,5,19,20,21,6,7,9,8] [8,16,5001,5002,20224,5000] (Ak 1 (An (An (o14 hpre x2 hx2 y3 x4 hx4 y9) (o15 hpre x2 hx2 y3 x4 hx4 y9)) (Ak 4 tv))) ?_
    refine swp_seq ?_
    refine swp_seq ?_
    refine zR [0,1,2,3,13,14,5,19,20,21,6,7,9,8,30] [8,16,5001,5002,20224,5000] (Ak 2 (An (An (o16 hpre x2 hx2 y3 x4 hx4 y9) (o17 hpre x2 hx2 y3 x4 hx4 y9)) (An (An (o18 hpre x2 hx2 y3 x4 hx4 y9) (An (zr (1:Int)) (o19 hpre x2 hx2 y3 x4 hx4 y9))) (Ak 1 tv)))) ?_
    refine zI (decide ((x2:Int) / 2 ^ x4 % 2=0)) (fun y10 => ?_) (fun y10 => ?_)
    ·refine swp_exit ?_
     refine zR [0,1,2,3,13,14,5,19,20,21,6,7] [8,16,5001,5002,5000] (An (o20 hpre x2 hx2 y3 x4 hx4 y9 y10) (Ak 1 tv)) ?_
     exact zn (zEn 64 hE [] [(8,.same 8),(16,.same 16),(5001,.same 5001),(5000,.same 5000),(5002,.same 5002)] [0,1,2,3,13,14,5,19,20] [8,16] (An (An (An (zr (AV.fn 0)) (zr true)) (An (An (zr (AV.rp (cHs g))) (zr true)) (An (An (zr (AV.rp [iv c])) (zr true)) (An (An (zr (AV.rp [iv now])) (zr true)) (An (An (zr (iv (1 * 2 ^ (Hs.things g).length))) (zr true)) (An (An (zr (iv (x2:Int))) (zr true)) (An (An (zr (iv (x2:Int))) (zr true)) (An (An (zr (AV.sl 4 (Hs.things g).length fun (i:Nat)=>cThg (thg g i))) (zr true)) (An (An (zr (iv (↑((Hs.things g).length):Int))) (zr true)) (An (An (ci (o21 hpre x2 hx2 y3 x4 hx4 y9 y10)) (zr nilN)) (An (An (zr (some (Src.same 5001))) (zr nilP)) (An (An (zr (some (Src.same 5002))) (zr nilP)) tv)))))))))))) (An (An (An (zr (OB.cells 89 [aInts (outL (bestR g c now x2)),iv (outN (bestR g c now x2))])) (zr true)) (An (An (zr (OB.cells 4 [bv !Option.isSome (bestR g c now x2)])) (zr true)) (An (An (zr 3) (An (zr 1) (An (o22 hpre x2 hx2 y3 x4 hx4 y9 y10) (fun (i11:Nat)=>(fun (y12:i11 < (outTo (x2:Int) x4).length)=>(o23 hpre x2 hx2 y3 x4 hx4 y9 y10 i11 y12)))))) (An (An (zr 89) (An (An (zr (some (Src.same 5000))) (An (An (ci (o24 hpre x2 hx2 y3 x4 hx4 y9 y10)) (zr nilN)) tv)) (zr true))) (An (An (zr 25) (An (An (An (zr 4) (An (zr (Hs.things g).length) (fun (i13:Nat)=>(fun (y14:i13 < (Hs.things g).length)=>(zr (cThg (thg g i13))))))) (An (An (zr 3) (An (o25 hpre x2 hx2 y3 x4 hx4 y9 y10) (fun (i15:Nat)=>(fun (y16:i15 < (altMs g c now (outTo (x2:Int) (x4 + 1))).length)=>(o26 hpre x2 hx2 y3 x4 hx4 y9 y10 i15 y16))))) tv)) (zr true))) tv))))) (An (zr true) (zr true))))) (o27 hpre x2 hx2 y3 x4 hx4 y9 y10) (o28 hpre x2 hx2 y3 x4 hx4 y9 y10)
    ·refine swp_skip ?_
     refine swp_seq ?_
     refine zR [0,1,2,3,13,14,5,19,20,21,6,7,9,8] [8,16,5001,5002,20224,20320] (Ak 4 (An (o29 hpre x2 hx2 y3 x4 hx4 y9 y10) (Ak 4 (An (o30 hpre x2 hx2 y3 x4 hx4 y9 y10) (Ak 4 tv))))) ?_
     refine zR [0,1,2,3,13,14,5,19,20,21,6,7] [8,16,5001,5002,20536,20320] (Ak 8 (An (An (zr ((↑((altMs g c now (outTo (x2:Int) x4)).length):Int))) (zr ((↑((altMs g c now (outTo (x2:Int) x4)).length):Int)))) (Ak 8 (An (An (o31 hpre x2 hx2 y3 x4 hx4 y9 y10) (by decide:0 < 1)) (Ak 2 tv))))) ?_
     refine zR [0,1,2,3,13,14,5,19,20,21,6,7] [8,16,5001,5002,20320,20536] (An (o32 hpre x2 hx2 y3 x4 hx4 y9 y10) (Ak 1 tv)) ?_
     exact zn (zEn 64 hE [20536] [(8,.same 8),(16,.same 16),(5001,.same 5001),(5000,.same 20320),(5002,.same 5002)] [0,1,2,3,13,14,5,19,20] [8,16] (An (An (An (zr (AV.fn 0)) (zr true)) (An (An (zr (AV.rp (cHs g))) (zr true)) (An (An (zr (AV.rp [iv c])) (zr true)) (An (An (zr (AV.rp [iv now])) (zr true)) (An (An (zr (iv (1 * 2 ^ (Hs.things g).length))) (zr true)) (An (An (zr (iv (x2:Int))) (zr true)) (An (An (zr (iv (x2:Int))) (zr true)) (An (An (zr (AV.sl 4 (Hs.things g).length fun (i:Nat)=>cThg (thg g i))) (zr true)) (An (An (zr (iv (↑((Hs.things g).length):Int))) (zr true)) (An (An (ci (o33 hpre x2 hx2 y3 x4 hx4 y9 y10)) (zr nilN)) (An (An (zr (some (Src.same 5001))) (zr nilP)) (An (An (zr (some (Src.same 5002))) (zr nilP)) tv)))))))))))) (An (An (An (zr (OB.cells 89 [aInts (outL (bestR g c now x2)),iv (outN (bestR g c now x2))])) (zr true)) (An (An (zr (OB.cells 4 [bv !Option.isSome (bestR g c now x2)])) (zr true)) (An (An (zr 3) (An (zr 1) (An (o34 hpre x2 hx2 y3 x4 hx4 y9 y10) (fun (i17:Nat)=>(fun (y18:i17 < (outTo (x2:Int) x4).length + 1)=>(o35 hpre x2 hx2 y3 x4 hx4 y9 y10 i17 y18)))))) (An (An (zr 89) (An (An (zr (some (Src.same 20320))) (An (An (ci (o36 hpre x2 hx2 y3 x4 hx4 y9 y10)) (zr nilN)) tv)) (zr true))) (An (An (zr 25) (An (An (An (zr 4) (An (zr (Hs.things g).length) (fun (i19:Nat)=>(fun (y20:i19 < (Hs.things g).length)=>(zr (cThg (thg g i19))))))) (An (An (zr 3) (An (o37 hpre x2 hx2 y3 x4 hx4 y9 y10) (fun (i21:Nat)=>(fun (y22:i21 < (altMs g c now (outTo (x2:Int) (x4 + 1))).length)=>(o38 hpre x2 hx2 y3 x4 hx4 y9 y10 i21 y22))))) tv)) (zr true))) tv))))) (An (zr true) (zr true))))) (o39 hpre x2 hx2 y3 x4 hx4 y9 y10) (o40 hpre x2 hx2 y3 x4 hx4 y9 y10)
   ·refine swp_exit ?_
    refine swp_seq ?_
    refine swp_ent (zEn (st2:=ASt.mk [(0,AV.fn 0),(1,AV.rp (cHs g)),(2,AV.rp [iv c]),(3,AV.rp [iv now]),(13,iv (1 * 2 ^ (Hs.things g).length)),(14,iv (x2:Int)),(5,iv (x2:Int)),(19,AV.sl 4 (Hs.things g).length fun (i:Nat)=>cThg (thg g i)),(20,iv (↑((Hs.things g).length):Int)),(21,iv (x4:Int)),(6,AV.ptr 5001 []),(7,AV.ptr 5002 []),(22,bv (decide ((x4:Int) < (↑((Hs.things g).length):Int))))] [(5001,OB.cells 89 [aInts (remL g x2),iv (costR g (remL g x2))]),(8,OB.cells 89 [aInts (outL (bestR g c now x2)),iv (outN (bestR g c now x2))]),(16,OB.cells 4 [bv !Option.isSome (bestR g c now x2)]),(5002,OB.cells 25 [AV.sl 4 (Hs.things g).length fun (i:Nat)=>cThg (thg g i),aMrks (altMs g c now (outTo (x2:Int) x4))])] 20200) 64 hE [5000] [(8,.same 8),(16,.same 16),(5001,.same 5001),(5002,.same 5002)] [0,1,2,3,13,14,5,19,20,21,22] [8,16,5002] (An (An (An (zr (AV.fn 0)) (zr true)) (An (An (zr (AV.rp (cHs g))) (zr true)) (An (An (zr (AV.rp [iv c])) (zr true)) (An (An (zr (AV.rp [iv now])) (zr true)) (An (An (zr (iv (1 * 2 ^ (Hs.things g).length))) (zr true)) (An (An (zr (iv (x2:Int))) (zr true)) (An (An (zr (iv (x2:Int))) (zr true)) (An (An (zr (AV.sl 4 (Hs.things g).length fun (i:Nat)=>cThg (thg g i))) (zr true)) (An (An (zr (iv (↑((Hs.things g).length):Int))) (zr true)) (An (An (zr (iv (x4:Int))) (zr true)) (An (An (zr (some (Src.same 5001))) (zr nilP)) (An (An (zr (some (Src.same 5002))) (zr nilP)) (An (An (zr (bv (decide ((x4:Int) < (↑((Hs.things g).length):Int))))) (zr true)) tv))))))))))))) (An (An (An (zr 89) (An (An (An (zr 1) (An (o41 hpre x2 hx2 y3 x4 hx4 y9) (fun (i23:Nat)=>(fun (y24:i23 < (remL g x2).length)=>(o42 hpre x2 hx2 y3 x4 hx4 y9 i23 y24))))) (An (An (ci (o43 hpre x2 hx2 y3 x4 hx4 y9)) (zr nilN)) tv)) (zr true))) (An (An (zr (OB.cells 89 [aInts (outL (bestR g c now x2)),iv (outN (bestR g c now x2))])) (zr true)) (An (An (zr (OB.cells 4 [bv !Option.isSome (bestR g c now x2)])) (zr true)) (An (An (zr (OB.cells 25 [AV.sl 4 (Hs.things g).length fun (i:Nat)=>cThg (thg g i),aMrks (altMs g c now (outTo (x2:Int) x4))])) (zr true)) tv)))) (An (zr true) (zr true))))) ?_
    refine zC ([(2,CallSpec.eq (c45f g c now x2) [false,true]),(3,CallSpec.eq (c45l g c now x2) [true]),(9,CallSpec.eq (y45 g c now x2) [true])]) [0,1,2,3,13,14,74] [8,16] (Ak 2 (An (An (An (An (An (zr 4) (An (o44 hpre x2 hx2 y3 x4 hx4 y9) (fun (i25:Nat)=>(fun (y26:i25 < (Hs.things (remH g c now x2)).length)=>(o45 hpre x2 hx2 y3 x4 hx4 y9 i25 y26))))) (An (An (zr 3) (An (o46 hpre x2 hx2 y3 x4 hx4 y9) (fun (i27:Nat)=>(fun (y28:i27 < (Hs.marks (remH g c now x2)).length)=>(o47 hpre x2 hx2 y3 x4 hx4 y9 i27 y28))))) tv)) (An (zr (iv c)) tv)) (An (t112 (remH g c now x2) (c)) (An (o48 hpre x2 hx2 y3 x4 hx4 y9) (Ak 1 (fun (i29:Env)=>tv))))) (An (An (An (zr (AV.rp (cHo (remH g c now x2) c (tS (remH g c now x2) c (Hs.things (remH g c now x2)).length) (tB (remH g c now x2) c (Hs.things (remH g c now x2)).length)))) tv) (An (t113 (remH g c now x2) (c) (tS (remH g c now x2) c (Hs.things (remH g c now x2)).length) (tB (remH g c now x2) c (Hs.things (remH g c now x2)).length)) (An (o49 hpre x2 hx2 y3 x4 hx4 y9) (Ak 1 (fun (i30:Env)=>tv))))) (Ak 3 (An (fun (y31:decide ((↑((thTo (lackP (remH g c now x2) (tS (remH g c now x2) c (Hs.things (remH g c now x2)).length)) (Hs.things (remH g c now x2)).length).length):Int)=0)=true)=>(An (Ak 1 tv) tv)) (An (fun (y32:decide ((↑((thTo (lackP (remH g c now x2) (tS (remH g c now x2) c (Hs.things (remH g c now x2)).length)) (Hs.things (remH g c now x2)).length).length):Int)=0)=true)=>(An (Ak 1 tv) tv)) (An (An (fun (y33:decide ((↑((thTo (lackP (remH g c now x2) (tS (remH g c now x2) c (Hs.things (remH g c now x2)).length)) (Hs.things (remH g c now x2)).length).length):Int)=0)=true)=>(An (An (fun (y34:decide ((↑((thTo (lackP (remH g c now x2) (tS (remH g c now x2) c (Hs.things (remH g c now x2)).length)) (Hs.things (remH g c now x2)).length).length):Int)=0)=true)=>y33) (An (fun (y35:decide ((↑((thTo (lackP (remH g c now x2) (tS (remH g c now x2) c (Hs.things (remH g c now x2)).length)) (Hs.things (remH g c now x2)).length).length):Int)=0)=true)=>y33) tv)) (An (An (zr (AV.agg [aInts (remL g x2),iv (costR g (remL g x2))])) tv) (An (hY1 x2 (o50 hpre x2 hx2 y3 x4 hx4 y9 y33)) (Ak 1 (An (zr (some (OB.cells 89 [aInts (outL (bestR g c now x2)),iv (outN (bestR g c now x2))]))) (An (zr (some (OB.cells 4 [bv !Option.isSome (bestR g c now x2)]))) tv))))))) (fun (y36:decide ((↑((thTo (lackP (remH g c now x2) (tS (remH g c now x2) c (Hs.things (remH g c now x2)).length)) (Hs.things (remH g c now x2)).length).length):Int)=0)=false)=>(An (o51 hpre x2 hx2 y3 x4 hx4 y9 y36) (An (o52 hpre x2 hx2 y3 x4 hx4 y9 y36) (An (o53 hpre x2 hx2 y3 x4 hx4 y9 y36) (An (o54 hpre x2 hx2 y3 x4 hx4 y9 y36) tv)))))) (An (fun (y37:decide ((↑((thTo (lackP (remH g c now x2) (tS (remH g c now x2) c (Hs.things (remH g c now x2)).length)) (Hs.things (remH g c now x2)).length).length):Int)=0)=true)=>(An (An (fun (y38:decide ((↑((thTo (lackP (remH g c now x2) (tS (remH g c now x2) c (Hs.things (remH g c now x2)).length)) (Hs.things (remH g c now x2)).length).length):Int)=0)=true)=>y37) tv) tv)) (An (An (fun (y39:decide ((↑((thTo (lackP (remH g c now x2) (tS (remH g c now x2) c (Hs.things (remH g c now x2)).length)) (Hs.things (remH g c now x2)).length).length):Int)=0)=true)=>y39) (fun (y40:decide ((↑((thTo (lackP (remH g c now x2) (tS (remH g c now x2) c (Hs.things (remH g c now x2)).length)) (Hs.things (remH g c now x2)).length).length):Int)=0)=false)=>tv)) tv))))))))) ?_
    refine zI (bif decide ((↑((thTo (lackP (remH g c now x2) (tS (remH g c now x2) c (Hs.things (remH g c now x2)).length)) (Hs.things (remH g c now x2)).length).length):Int)=0) then false else false) (fun y41 => ?_) (fun y41 => ?_)
    ·refine swp_ret ?_
     exact zM (zEn 64 hE [] [(8,.same 8),(16,.same 16)] [] [] (Ak 1 (An (An (An (zr 89) (An (An (An (zr 1) (An (o55 hpre x2 hx2 y3 x4 hx4 y9 y41) (fun (i42:Nat)=>(fun (y43:i42 < (outL (leastR g c now)).length)=>(o56 hpre x2 hx2 y3 x4 hx4 y9 y41 i42 y43))))) (An (An (ci (o57 hpre x2 hx2 y3 x4 hx4 y9 y41)) (zr nilN)) tv)) (zr true))) (An (An (zr 4) (An (An (An (cb (o58 hpre x2 hx2 y3 x4 hx4 y9 y41)) (zr nilN)) tv) (zr true))) tv)) (An (zr true) (zr true)))))
    ·refine swp_skip ?_
     refine zR [0,1,2,3,13,14] [8,16] (An (o59 hpre x2 hx2 y3 x4 hx4 y9 y41) (Ak 1 tv)) ?_
     exact zn (zEn 64 hE [] [(8,.same 8),(16,.same 16)] [0,1,2,3,13] [8,16] (An (An (An (zr (AV.fn 0)) (zr true)) (An (An (zr (AV.rp (cHs g))) (zr true)) (An (An (zr (AV.rp [iv c])) (zr true)) (An (An (zr (AV.rp [iv now])) (zr true)) (An (An (zr (iv (1 * 2 ^ (Hs.things g).length))) (zr true)) (An (An (ci (o60 hpre x2 hx2 y3 x4 hx4 y9 y41)) (zr nilN)) tv)))))) (An (An (An (zr (OB.cells 89 [aInts (outL (bestR g c now (x2 + 1))),iv (outN (bestR g c now (x2 + 1)))])) (zr true)) (An (An (zr (OB.cells 4 [bv !Option.isSome (bestR g c now (x2 + 1))])) (zr true)) tv)) (An (zr true) (zr true))))) (o61 hpre x2 hx2 y3 x4 hx4 y9 y41) (o62 hpre x2 hx2 y3 x4 hx4 y9 y41)
  ·refine swp_exit ?_
   exact zm (zEn 64 hE [] [(8,.same 8),(16,.same 16)] [] [] (Ak 1 (An (An (An (zr 89) (An (An (An (zr 1) (An (o63 hpre x2 hx2 y3) (fun (i44:Nat)=>(fun (y45:i44 < (outL (leastR g c now)).length)=>(o64 hpre x2 hx2 y3 i44 y45))))) (An (An (ci (o65 hpre x2 hx2 y3)) (zr nilN)) tv)) (zr true))) (An (An (zr 4) (An (An (An (cb (o66 hpre x2 hx2 y3)) (zr nilN)) tv) (zr true))) tv)) (An (zr true) (zr true)))))
 ·obtain ⟨P,w0,E0,av,hA,ro,df⟩:=C
  subst hC
  refine zR [6,7,8] [8,16,6000] (Ak 2 tv) ?_
  intro C hC hE
  obtain ⟨P,w0,E0,av,hA,ro,df⟩:=C
  subst hC
  refine swp_block ?_
  refine swp_seq ?_
  refine zC ([(18,CallSpec.eq (c45c g c now j1) [true,true]),(20,CallSpec.eq (c45o g c now j1) [false])]) [6,7,8,36] [8,16,6000] (Ak 2 (An (fun (y46:(!!Option.isSome (bestR g c now j1))=true)=>(An (Ak 1 tv) tv)) (An (fun (y47:(!!Option.isSome (bestR g c now j1))=true)=>(An (An (fun (y48:(!!Option.isSome (bestR g c now j1))=true)=>y47) tv) tv)) (An (fun (y49:(!!Option.isSome (bestR g c now j1))=true)=>(An (Ak 1 tv) tv)) (An (fun (y50:(!!Option.isSome (bestR g c now j1))=true)=>(An (An (fun (y51:(!!Option.isSome (bestR g c now j1))=true)=>y50) tv) tv)) (An (fun (y52:(!!Option.isSome (bestR g c now j1))=true)=>(An (An (fun (y53:(!!Option.isSome (bestR g c now j1))=true)=>y52) (An (fun (y54:(!!Option.isSome (bestR g c now j1))=true)=>y52) tv)) (o67 hpre j1 hj1 hp1 y52))) (An (fun (y55:(!!Option.isSome (bestR g c now j1))=true)=>(An (Ak 1 tv) tv)) (An (fun (y56:(!!Option.isSome (bestR g c now j1))=true)=>(An (An (fun (y57:(!!Option.isSome (bestR g c now j1))=true)=>y56) tv) tv)) (An (fun (y58:(!!Option.isSome (bestR g c now j1))=true)=>(An (An (fun (y59:(!!Option.isSome (bestR g c now j1))=true)=>y58) tv) tv)) (An (fun (y60:(!!Option.isSome (bestR g c now j1))=true)=>(An (Ak 1 tv) tv)) (An (fun (y61:(!!Option.isSome (bestR g c now j1))=true)=>(An (An (fun (y62:(!!Option.isSome (bestR g c now j1))=true)=>y61) tv) tv)) (An (fun (y63:(!!Option.isSome (bestR g c now j1))=true)=>(An (An (fun (y64:(!!Option.isSome (bestR g c now j1))=true)=>y63) tv) tv)) (An (fun (y65:(!!Option.isSome (bestR g c now j1))=true)=>(An (An (fun (y66:(!!Option.isSome (bestR g c now j1))=true)=>y65) (An (fun (y67:(!!Option.isSome (bestR g c now j1))=true)=>y65) tv)) (o68 hpre j1 hj1 hp1 y65))) (An (fun (y68:(!!Option.isSome (bestR g c now j1))=true)=>(An (Ak 1 tv) tv)) (An (fun (y69:(!!Option.isSome (bestR g c now j1))=true)=>(An (An (fun (y70:(!!Option.isSome (bestR g c now j1))=true)=>y69) tv) tv)) (An (fun (y71:(!!Option.isSome (bestR g c now j1))=true)=>(An (Ak 1 tv) tv)) (An (fun (y72:(!!Option.isSome (bestR g c now j1))=true)=>(An (An (fun (y73:(!!Option.isSome (bestR g c now j1))=true)=>y72) tv) tv)) (An (fun (y74:(!!Option.isSome (bestR g c now j1))=true)=>(An (Ak 1 (An (fun (y75:(!!Option.isSome (bestR g c now j1))=true)=>y74) (An (fun (y76:(!!Option.isSome (bestR g c now j1))=true)=>y74) tv))) (An (An (zr (aInts (remL g j1))) (An (zr (aInts (outL (bestR g c now j1)))) tv)) (An (t82 (remL g j1) (outL (bestR g c now j1))) (An (An (o69 hpre j1 hj1 hp1 y74) (o70 hpre j1 hj1 hp1 y74)) (Ak 1 (fun (i77:Env)=>tv))))))) (An (fun (y78:(!!Option.isSome (bestR g c now j1))=true)=>(An (An (fun (y79:(!!Option.isSome (bestR g c now j1))=true)=>y78) (An (fun (y80:(!!Option.isSome (bestR g c now j1))=true)=>y78) (An (fun (y81:(!!Option.isSome (bestR g c now j1))=true)=>y78) tv))) tv)) (An (fun (y82:(!!Option.isSome (bestR g c now j1))=true)=>(An (Ak 1 (An (fun (y83:(!!Option.isSome (bestR g c now j1))=true)=>y82) tv)) (An (An (An (zr 1) (An (o71 hpre j1 hj1 hp1 y82) (fun (i84:Nat)=>(fun (y85:i84 < List.length [costR g (remL g j1) - outN (bestR g c now j1),(↑((remL g j1).length):Int) - (↑((outL (bestR g c now j1)).length):Int),cmpL (remL g j1) (outL (bestR g c now j1))])=>(o72 hpre j1 hj1 hp1 y82 i84 y85))))) tv) (An (t81 ([costR g (remL g j1) - outN (bestR g c now j1),(↑((remL g j1).length):Int) - (↑((outL (bestR g c now j1)).length):Int),cmpL (remL g j1) (outL (bestR g c now j1))])) (An (o73 hpre j1 hj1 hp1 y82) (Ak 1 (fun (i86:Env)=>tv))))))) (An (fun (y87:(!!Option.isSome (bestR g c now j1))=true)=>(An (An (fun (y88:(!!Option.isSome (bestR g c now j1))=true)=>y87) (Ak 1 tv)) tv)) (An (An (fun (y89:(!Option.isSome (bestR g c now j1))=true)=>tv) (fun (y90:(!Option.isSome (bestR g c now j1))=false)=>(o74 hpre j1 hj1 hp1 y90))) tv)))))))))))))))))))))) ?_
  refine zI (bif !Option.isSome (bestR g c now j1) then true else decide (orI [costR g (remL g j1) - outN (bestR g c now j1),(↑((remL g j1).length):Int) - (↑((outL (bestR g c now j1)).length):Int),cmpL (remL g j1) (outL (bestR g c now j1))] < 0)) (fun y91 => ?_) (fun y91 => ?_)
  ·refine zR [] [8,16] (Ak 3 tv) ?_
   exact zN 1006000 (zEn 6000 hE [] [(8,.same 8),(16,.same 16)] [] [] (Ak 1 (An (An (An (zr 89) (An (An (An (zr 1) (An (o75 hpre j1 hj1 hp1 y91) (fun (i92:Nat)=>(fun (y93:i92 < (outL (bestR g c now (j1 + 1))).length)=>(o76 hpre j1 hj1 hp1 y91 i92 y93))))) (An (An (ci (o77 hpre j1 hj1 hp1 y91)) (zr nilN)) tv)) (zr true))) (An (An (zr 4) (An (An (An (cb (o78 hpre j1 hj1 hp1 y91)) (zr nilN)) tv) (zr true))) tv)) (An (zr true) (zr true)))))
  ·refine swp_skip ?_
   exact zN 1006000 (zEn 6000 hE [] [(8,.same 8),(16,.same 16)] [] [] (Ak 1 (An (An (An (zr 89) (An (An (An (zr 1) (An (o79 hpre j1 hj1 hp1 y91) (fun (i94:Nat)=>(fun (y95:i94 < (outL (bestR g c now (j1 + 1))).length)=>(o80 hpre j1 hj1 hp1 y91 i94 y95))))) (An (An (ci (o81 hpre j1 hj1 hp1 y91)) (zr nilN)) tv)) (zr true))) (An (An (zr 4) (An (An (An (cb (o82 hpre j1 hj1 hp1 y91)) (zr nilN)) tv) (zr true))) tv)) (An (zr true) (zr true)))))
 ·refine swp_seq ?_
  refine zR [6] [8] (Ak 2 tv) ?_
  refine swp_ret ?_
  exact zT [] (An (Ak 1 tv) (An (An (An (zr 1) (An (zr (outL (leastR g c now)).length) (fun (i96:Nat)=>(fun (y97:i96 < (outL (leastR g c now)).length)=>(zr ([iv ((outL (leastR g c now)).getD i96 0)])))))) (An (An (zr (iv (outN (leastR g c now)))) (zr nilN)) tv)) (An (zr true) (An (zr true) (zr true)))))
theorem mem_outTo {w v:Int}:∀ {k:Nat},v ∈ outTo w k -> ∃ i:Nat,v=i/\i < k/\bitP w (i:Int)=true:=by
 intro k
 induction k with
 | zero=>intro h; cases h
 | succ k ih =>
  intro h
  cases hb:bitP w (k:Int) with
  | true =>
   rw [out_t hb,List.mem_append,List.mem_singleton] at h
   rcases h with h | h
   ·obtain ⟨i,a,b,e⟩:=ih h; exact ⟨i,a,by omega,e⟩
   ·exact ⟨k,h,by omega,hb⟩
  | false =>
   rw [out_f hb] at h
   obtain ⟨i,a,b,e⟩:=ih h; exact ⟨i,a,by omega,e⟩
theorem okM_alt {g:Hs} {c now:Int} {l:List Int} {m:Mrk}:okM (altH g c now l) m=okM g m:=rfl
theorem okM_altM {g:Hs} {c now n:Int} (hT:∀ i,i < g.things.length->okT g i=true) (hc:within c 0 2=true) (hn:within now 0 99=true) (h:0<=n/\n < g.things.length):okM g (altM g c now n)=true:=by
 have h1:=okT_facts (hT n.toNat (by omega))
 have h2:=Go.Sh.within_iff.1 hn
 simp only [okM,altM,Bool.and_eq_true]
 exact ⟨⟨hc,isThing_iff.2 h⟩,Go.Sh.within_iff.2 (by omega)⟩
theorem okW_alt {g:Hs} {c now:Int} {l:List Int} (hh:okH g=true) (hc:within c 0 2=true) (hn:within now 0 99=true) (hl:l.length<=40) (h:∀ v,v ∈ l->0<=v/\v < g.things.length):okW (altH g c now l)=true:=by
 obtain ⟨l1,l2,hT,hM⟩:=okH_iff.1 hh
 refine okW_iff.2 ⟨l1,by show (altMs g c now l).length<=100; rw [altMs_len]; omega,hT,fun m hm => ?_⟩
 rw [okM_alt]
 rcases List.mem_append.1 hm with h1 | h1
 ·exact hM m h1
 ·obtain ⟨n,h2,rfl⟩:=List.mem_map.1 h1
  exact okM_altM hT hc hn (h n h2)
theorem bit0_t {w:Int} {k:Nat} (h:decide (w / 2 ^ k % 2=0)=false):bitP w (k:Int)=true:=by
 have h:=of_decide_eq_false h
 unfold bitP
 rw [Int.toNat_natCast]
 exact decide_eq_true (by omega)
theorem bit0_f {w:Int} {k:Nat} (h:decide (w / 2 ^ k % 2=0)=true):bitP w (k:Int)=false:=by
 have h:=of_decide_eq_true h
 unfold bitP
 rw [Int.toNat_natCast]
 exact decide_eq_false (by omega)
theorem okH_cost {g:Hs} (hT:∀ i,i < g.things.length->okT g i=true):∀ i,i < g.things.length->0<=(thg g i).cost/\(thg g i).cost<=99:=fun i hi=>Go.Sh.within_iff.1 (okT_facts (hT i hi)).2.2.2.1
theorem bif_ff {b:Bool} (h:(bif b then false else false)=true):False:=by cases b <;> cases h
theorem bet_eq (b:Out) (l:List Int) (n:Int):(bif !b.isSome then true else decide (orI [n - outN b,(l.length:Int) - ((outL b).length:Int),cmpL l (outL b)] < 0))=betterR b l n:=by cases b <;> rfl
theorem alts_t {g:Hs} {c now w:Int} {k:Nat} (h:bitP w (k:Int)=true):altMs g c now (outTo w (k + 1))=altMs g c now (outTo w k) ++ [altM g c now (k:Int)]:=by
 rw [out_t h]; unfold altMs; rw [List.map_append,List.append_assoc]; rfl
theorem t45 (g:Hs) (c now:Int):Triple Try.prog 45 (s45 g c now):=by
  apply w45
  all_goals (try delta q2b q2c q2d q2e q2f q2g q2h q2i q2j q2k q2l q2m q2n q2o q2p q2q)
  all_goals (first | ((repeat intro _) <;> (try simp only [Bool.cond_true_left,Bool.cond_false_right,Bool.not_not,Bool.not_eq_true',Bool.not_eq_false',Bool.or_eq_true,Bool.or_eq_false_iff,Bool.and_eq_true,decide_eq_true_eq,decide_eq_false_iff_not,inI,big] at *) <;> first | (exact rfl) | omega | (exact ⟨Nat.zero_le _,fun j hj=>absurd hj (Nat.not_lt_zero j)⟩) | (simp_all; done) | (simp_all; omega)) | skip)
  all_goals (intro hp; obtain ⟨hok,hc,hnow⟩:=hp; obtain ⟨l1,l2,hT,hM⟩:=okH_iff.1 hok; have hcost:=okH_cost hT; have h8:2 ^ g.things.length<=256:=Nat.pow_le_pow_right (by omega) l1)
  case o1=>omega
  case o2=>rw [pow_cast]; have h0:=Int.natCast_nonneg (2 ^ g.things.length); constructor <;> omega
  case o67 | o68 | o69 | o70 | o72 | o75 | o76 | o77 | o78 | o79 | o80 | o81 | o82 =>
    all_goals (intro j hj _ h)
    all_goals (have hb:=bestR_in hcost l1 c now j; have hr:=costR_in hcost (j:Int) g.things.length (Nat.le_refl _); have ho:=out_len (j:Int) g.things.length; have e1:remL g j=outTo (j:Int) g.things.length:=rfl)
    all_goals first
      | (rw [bet_eq] at h; rw [bestR_new hj.2 h]; first | rfl | (intro i _; rfl))
      | (rw [bet_eq] at h; rw [bestR_old h]; done)
      | (rw [bet_eq] at h; intros; rw [bestR_old h]; done)
      | (rw [e1]; constructor <;> omega)
      | (rw [e1]; omega)
      | omega
      | rfl
      | (rw [h]; rfl)
      | (intro i hi
         match i,hi with
         | 0,_=>rfl
         | 1,_=>rfl
         | 2,_=>rfl
         | i + 3,hi=>exact absurd hi (by simp))
      | (show 3<=65536; omega)
  all_goals (intro n hn hl; rw [pow_cast] at hl; simp only [decide_eq_true_eq,decide_eq_false_iff_not] at hl)
  case o63 | o64 | o65 | o66 =>
    have e:n=2 ^ g.things.length:=by omega
    subst e
    first | rfl | (intro i _; rfl)
  case o11=>rw [altMs_len]; rfl
  case o12=>intro i _; show _=cMrk ((g.marks ++ []).getD i default); rw [List.append_nil]
  all_goals (intro k hk hkl; simp only [decide_eq_true_eq,decide_eq_false_iff_not] at hkl)
  all_goals (have hol:=out_len (n:Int) k; have hpi:=costR_in hcost (n:Int) k hk)
  case o17=>omega
  case o18=>exact Int.ediv_nonneg (by omega) (Int.le_of_lt (Int.pow_pos (by omega)))
  case o19=>exact inI_div2 (by omega) (by omega)
  case o20=>intro _; constructor <;> omega
  case o22 | o24 | o25=>intro h; rw [out_f (bit0_f h)]
  case o23 | o26=>intro h i _; rw [out_f (bit0_f h)]
  case o29=>intro h; omega
  case o30=>intro h; have:=hcost k (by omega); constructor <;> omega
  case o31=>intro h; rw [altMs_len]; omega
  case o32=>intro _; constructor <;> omega
  case o34=>intro h; rw [out_t (bit0_t h),List.length_append]; rfl
  case o35=>intro h i hi; rw [out_t (bit0_t h)]; exact catF_one (outTo (n:Int) k) _ 0 (fun x=>[iv x]) rfl (fun k _=>rfl) rfl hi
  case o36=>intro h; rw [out_t (bit0_t h),costR_snoc]
  case o37=>intro h; rw [alts_t (bit0_t h),List.length_append]; rfl
  case o38=>intro h i hi; rw [alts_t (bit0_t h)]; refine catF_one (altMs g c now (outTo (n:Int) k)) (altM g c now (k:Int)) default (fun z=>cMrk z) rfl (fun _ _=>rfl) ?_ (by rw [alts_t (bit0_t h),List.length_append] at hi; exact hi); rfl
  all_goals (have ek:k=g.things.length:=by omega)
  all_goals subst ek
  case o41 | o43 | o46 | o49=>first | rfl | exact l1
  case o42 | o47=>intro i _; rfl
  case o48=>exact okW_alt hok hc hnow (by show (outTo _ _).length<=40; omega) (fun v hv=>by obtain ⟨i,h1,h2,_⟩:=mem_outTo hv; omega)
  case o50=>intro h; exact ⟨by omega,h⟩
  case o51 | o52 | o53 | o54=>intro h; have h':isRem g c now n=false:=h; rw [bestR_no h']
  case o59=>intro _; constructor <;> omega
  case o61=>intro _; omega
  all_goals (intro _; omega)
theorem w39 (g:Hs) (c:Int) (now:Int)
  (o0:p45 g c now->okH g=true)
  (o1:p45 g c now->(bif within c 0 2 then within now 0 99 else false)=true)
  (o2:p45 g c now->okH g=true)
  (o3:p45 g c now->within c 0 2=true)
  (o4:p45 g c now->within now 0 99=true) :
  Triple Try.prog 39 (s39 g c now):=by
 refine triple_of Try.func39 rfl Try.call39 T0_ok _ rfl rfl rfl rfl (Nat.le_of_ble_eq_true (by kernel_rfl)) (fun _ _ _ _ h=>h) ?_
 intro hpre C hC _ hE
 obtain ⟨P,w0,E0,av,hA,ro,df⟩:=C
 obtain ⟨rfl,rfl,rfl⟩:=hC
 refine swp_seq ?_
 refine zR [1,2,3] [0] (Ak 3 tv) ?_
 refine swp_seq ?_
 refine swp_seq ?_
 refine zC ([(2,CallSpec.eq (s43 c) [true]),(5,CallSpec.eq (s44 now) [true]),(7,CallSpec.eq (s42 g (bif within c 0 2 then within now 0 99 else false)) [true,true])]) [1,2,3,8] [0] (Ak 2 (An (An (An (zr (iv c)) tv) (An (t43 (c)) (Ak 2 (fun (i0:Env)=>tv)))) (Ak 1 (An (fun (y1:within c 0 2=true)=>(An (Ak 1 tv) tv)) (An (fun (y2:within c 0 2=true)=>(An (Ak 1 (An (fun (y3:within c 0 2=true)=>y2) tv)) (An (An (zr (iv now)) tv) (An (t44 (now)) (Ak 2 (fun (i4:Env)=>tv)))))) (An (An (fun (y5:within c 0 2=true)=>y5) (fun (y6:within c 0 2=false)=>tv)) (An (An (An (zr (AV.agg (cHs g))) (An (zr (bv (bif within c 0 2 then within now 0 99 else false))) tv)) (An (t42 (g) (bif within c 0 2 then within now 0 99 else false)) (An (An (o0 hpre) (o1 hpre)) (Ak 1 (fun (i7:Env)=>tv))))) (Ak 1 tv)))))))) ?_
 refine swp_seq ?_
 refine zR [1,2,3,8,18] [0] (Ak 2 tv) ?_
 refine zf ?_
 refine swp_skip ?_
 refine swp_seq ?_
 refine zC ([(3,CallSpec.eq (s45 g c now) [true,true,true])]) [6,7] [] (Ak 3 (An (An (An (zr (AV.agg (cHs g))) (An (zr (iv c)) (An (zr (iv now)) tv))) (An (t45 (g) (c) (now)) (An (An (o2 hpre) (An (o3 hpre) (o4 hpre))) (Ak 1 (fun (i8:Env)=>tv))))) (Ak 3 tv))) ?_
 refine swp_ret ?_
 exact zT [] (An (Ak 2 tv) (An (An (An (zr (iv (outN (leastR g c now)))) (zr nilN)) (An (An (zr (iv 0)) (zr nilN)) tv)) (An (zr true) (An (zr true) (zr true)))))
theorem t39 (g:Hs) (c now:Int):Triple Try.prog 39 (s39 g c now):=by
 apply w39
 all_goals (first | ((repeat intro _) <;> (try simp only [Bool.cond_true_left,Bool.cond_false_right,Bool.not_not,Bool.not_eq_true',Bool.not_eq_false',Bool.or_eq_true,Bool.or_eq_false_iff,Bool.and_eq_true,decide_eq_true_eq,decide_eq_false_iff_not,inI,big] at *) <;> first | (exact rfl) | omega | (exact ⟨Nat.zero_le _,fun j hj=>absurd hj (Nat.not_lt_zero j)⟩) | (simp_all; done) | (simp_all; omega)) | skip)
 all_goals (intro hp; obtain ⟨hok,hc,hn⟩:=hp)
 case o1=>rw [hc,hn]; rfl
 all_goals assumption
theorem w10 (g:Hs) (c:Int) (now:Int)
  (o0:p45 g c now->okH g=true)
  (o1:p45 g c now->(bif within c 0 2 then within now 0 99 else false)=true)
  (o2:p45 g c now->okH g=true)
  (o3:p45 g c now->within c 0 2=true)
  (o4:p45 g c now->within now 0 99=true) :
  Triple Try.prog 10 (s10 g c now):=by
 refine triple_of Try.func10 rfl Try.call10 T0_ok _ rfl rfl rfl rfl (Nat.le_of_ble_eq_true (by kernel_rfl)) (fun _ _ _ _ h=>h) ?_
 intro hpre C hC _ hE
 obtain ⟨P,w0,E0,av,hA,ro,df⟩:=C
 obtain ⟨rfl,rfl,rfl⟩:=hC
 refine swp_seq ?_
 refine zR [1,2,3] [0] (Ak 3 tv) ?_
 refine swp_seq ?_
 refine swp_seq ?_
 refine zC ([(2,CallSpec.eq (s43 c) [true]),(5,CallSpec.eq (s44 now) [true]),(7,CallSpec.eq (s42 g (bif within c 0 2 then within now 0 99 else false)) [true,true])]) [1,2,3,8] [0] (Ak 2 (An (An (An (zr (iv c)) tv) (An (t43 (c)) (Ak 2 (fun (i0:Env)=>tv)))) (Ak 1 (An (fun (y1:within c 0 2=true)=>(An (Ak 1 tv) tv)) (An (fun (y2:within c 0 2=true)=>(An (Ak 1 (An (fun (y3:within c 0 2=true)=>y2) tv)) (An (An (zr (iv now)) tv) (An (t44 (now)) (Ak 2 (fun (i4:Env)=>tv)))))) (An (An (fun (y5:within c 0 2=true)=>y5) (fun (y6:within c 0 2=false)=>tv)) (An (An (An (zr (AV.agg (cHs g))) (An (zr (bv (bif within c 0 2 then within now 0 99 else false))) tv)) (An (t42 (g) (bif within c 0 2 then within now 0 99 else false)) (An (An (o0 hpre) (o1 hpre)) (Ak 1 (fun (i7:Env)=>tv))))) (Ak 1 tv)))))))) ?_
 refine swp_seq ?_
 refine zR [1,2,3,8,18] [0] (Ak 2 tv) ?_
 refine zf ?_
 refine swp_skip ?_
 refine swp_seq ?_
 refine zC ([(3,CallSpec.eq (s45 g c now) [true,true,true])]) [6,7] [] (Ak 3 (An (An (An (zr (AV.agg (cHs g))) (An (zr (iv c)) (An (zr (iv now)) tv))) (An (t45 (g) (c) (now)) (An (An (o2 hpre) (An (o3 hpre) (o4 hpre))) (Ak 1 (fun (i8:Env)=>tv))))) (Ak 3 tv))) ?_
 refine swp_ret ?_
 exact zT [] (An (Ak 2 tv) (An (An (An (zr 1) (An (zr (outL (leastR g c now)).length) (fun (i9:Nat)=>(fun (y10:i9 < (outL (leastR g c now)).length)=>(zr ([iv ((outL (leastR g c now)).getD i9 0)])))))) (An (An (zr (iv 0)) (zr nilN)) tv)) (An (zr true) (An (zr true) (zr true)))))
theorem t10 (g:Hs) (c now:Int):Triple Try.prog 10 (s10 g c now):=by
 apply w10
 all_goals (first | ((repeat intro _) <;> (try simp only [Bool.cond_true_left,Bool.cond_false_right,Bool.not_not,Bool.not_eq_true',Bool.not_eq_false',Bool.or_eq_true,Bool.or_eq_false_iff,Bool.and_eq_true,decide_eq_true_eq,decide_eq_false_iff_not,inI,big] at *) <;> first | (exact rfl) | omega | (exact ⟨Nat.zero_le _,fun j hj=>absurd hj (Nat.not_lt_zero j)⟩) | (simp_all; done) | (simp_all; omega)) | skip)
 all_goals (intro hp; obtain ⟨hok,hc,hn⟩:=hp)
 case o1=>rw [hc,hn]; rfl
 all_goals assumption
end Go.Ab
namespace Go.Sh
open Go.Ab
def hasH (g:Hs) (i c m:Int):Bool:=hasB (tS g c g.things.length) m i
def hasT (t:Twn) (i c:Nat):Bool:=hasH t.house (i:Int) (c:Int) t.minute
def setTo (t:Twn) (i:Nat):Nat->Int
 | 0=>0
 | c + 1=>if hasT t i c then lorI (setTo t i c) (1 * 2 ^ c) else setTo t i c
def setT (t:Twn) (i:Nat):Int:=if thereT t i then setTo t i 3 else 0
def thrN (t:Twn) (i:Nat):Int:=if thereT t i then 1 else 0
def esT (t:Twn):Nat->List (Int × Int)
 | 0=>[]
 | n + 1=>if thereT t n then esT t n ++ [((pgN t.house n:Int),lorI (mlook (esT t n) (pgN t.house n:Int)) (setTo t n 3))] else esT t n
def pagesT (t:Twn):List (Int × Int):=esT t t.house.things.length
def freshT (t:Twn) (i:Nat):Bool:=decide (thrN t i=1) && decide (setT t i=mlook (pagesT t) (pgN t.house i:Int))
def roomsL (t:Twn) (n:Nat):List Int:=(List.range t.rooms.length).map fun k=>t.rooms.getD k 0 - (cntB t t.places (k:Int) n:Int)
theorem roomsL_at (t:Twn) (n:Nat) {k:Nat} (hk:k < t.rooms.length):(roomsL t n).getD k 0=t.rooms.getD k 0 - (cntB t t.places (k:Int) n:Int):=by
 unfold roomsL; rw [List.getD_eq_getElem?_getD,List.getElem?_map,List.getElem?_range hk]; rfl
theorem roomsL_len (t:Twn) (n:Nat):(roomsL t n).length=t.rooms.length:=by unfold roomsL; rw [List.length_map,List.length_range]
end Go.Sh
namespace Go.En
open Go Go.Ab Go.Sh Go.Proofs
abbrev uv (n:Int):AV := .lit (.int .u64 n)
def cKnd (t:Twn) (i:Nat):List AV:=[iv (pgN t.house i:Int),iv (thrN t i),uv (setT t i)]
abbrev vKnd (t:Twn) (i:Nat):AV := .agg (cKnd t i)
noncomputable def cKn (t:Twn):List AV:=[.sl 4 t.house.things.length (fun i=>cThg (thg t.house i)),aMrks t.house.marks,aInts t.places,aInts t.carry,aInts t.rooms,iv t.minute,.sl 3 t.house.things.length (fun i=>cKnd t i),.mz Try.prog 3 142 .u64 (pagesT t)]
end Go.En
namespace Go.Ab
open Go Go.RowKit Go.Proofs Go.Sh Go.En
def s84 (g:Hs) (i c m:Int):CallSpec:={ args:=[vHs g,iv i,iv c,iv m],res := .tup [bv (hasH g i c m),iv 0],pre:=okH g=true/\isThing g i=true/\within c 0 2=true/\within m 0 99=true }
def s127z (l:List Int) (p:Int->Bool):CallSpec:={ args:=[aInts l,.fn 0],res:=iv (idxG l p),pre:=l.length<=1125899906842624,fnok:=fnokOf Try.prog 0 (fun m:Int=>[iv m]) (fun m=>bv (p m)) }
def h127z (l:List Int) (p:Int->Bool):Hint:={ X:=Nat,M:=fun i=>[(8,iv i)],I:=fun i=>i<=l.length /\ ∀ j,j < i->p (l.getD j 0)=false,mu:=fun i=>l.length - i,x0:=(0:Nat),nx:=fun i=>i + 1 }
def c127z (l:List Int) (p:Int->Bool) (x:Nat):CallSpec:={ args:=[iv (l.getD x 0)],res:=bv (p (l.getD x 0)) }
def s117 (l:List Int) (p:Int->Bool):CallSpec:={ args:=[aInts l,.fn 0],res:=bv (l.any p),pre:=l.length<=1125899906842624,fnok:=fnokOf Try.prog 0 (fun m:Int=>[iv m]) (fun m=>bv (p m)) }
def c117 (l:List Int) (p:Int->Bool):CallSpec:=s127z l p
def s116 (n lo hi:Int):CallSpec:={ args:=[iv n,.rp [iv lo],.rp [iv hi]],res:=bv (!within n lo hi) }
def s115 (lo hi:Int):CallSpec:={ args:=[iv lo,iv hi],res := .clo 116 [.rp [iv lo],.rp [iv hi]] }
def s137 (n:Int):CallSpec:={ args:=[iv n],res:=bv (decide (n < 0)) }
def s118 (t:Twn):CallSpec:={ args:=[vTwn t,aInts t.places],res:=bv (roomyT t t.places),pre:=okTwn t=true }
def h118 (t:Twn):Hint:={ X:=Nat,M:=fun n=>[(13,iv n),(5,.vec 5000)],H:=fun n=>[(5000,.vec 3 1 t.rooms.length (fun k=>[iv (t.rooms.getD k 0 - (cntB t t.places (k:Int) n:Int))]))],I:=fun n=>n<=t.places.length,mu:=fun n=>t.places.length - n,x0:=(0:Nat),nx:=fun n=>n + 1 }
def c118 (t:Twn):CallSpec:=s117 (roomsL t t.places.length) (fun n=>decide (n < 0))
def c118c (t:Twn) (id:Nat):CallSpec:=s93o t.rooms id
def s83 (t:Twn):CallSpec:={ args:=[vTwn t],res:=iv 0,pre:=okTwn t=true }
def c83a (t:Twn):CallSpec:=s117 t.rooms (fun n => !within n 0 9)
def c83b (t:Twn):CallSpec:=s117 t.places (fun n => !within n 0 ((t.rooms.length:Int) - 1))
def c83c (t:Twn):CallSpec:=s117 t.carry (fun n => !within n 0 99)
noncomputable def s47 (t:Twn) (is:Bool):CallSpec:={ args:=[vTwn t,bv is],res := .tup [.rp (cKn t),iv 0],pre:=okTwn t=true/\is=true }
def h47a (t:Twn) (is:Bool):Hint:={ X:=Nat,M:=fun i=>[(29,iv i),(7,.ptr 5000 [])],H:=fun i=>[(5000,.cells 140 [.sl 4 t.house.things.length (fun i=>cThg (thg t.house i)),aMrks t.house.marks,aInts t.places,aInts t.carry,aInts t.rooms,iv t.minute,.vec 5001,.vec 5002]),(5001,.vec 144 3 i (fun k=>cKnd t k)),(5002,.mp 137 .u64 (esT t i))],I:=fun i=>i<=t.house.things.length,mu:=fun i=>t.house.things.length - i,x0:=(0:Nat),nx:=fun i=>i + 1 }
def h47b (t:Twn) (is:Bool) (i:Nat):Hint:={ X:=Nat,M:=fun c=>[(55,iv c),(10,.ptr 5010 [])],H:=fun c=>[(5010,.cells 144 [iv (pgN t.house i:Int),iv 1,uv (setTo t i c)])],I:=fun c=>c<=3,mu:=fun c=>3 - c,x0:=(0:Nat),nx:=fun c=>c + 1 }
noncomputable def s49 (t:Twn) (i:Nat):CallSpec:={ args:=[.rp (cKn t),iv i],res:=bv (freshT t i),pre:=okH t.house=true/\i < t.house.things.length }
def s15 (t:Twn) (i:Nat):CallSpec:={ args:=[vTwn t,iv i],res := .tup [bv (freshT t i),iv 0],pre:=okTwn t=true/\i < t.house.things.length }
end Go.Ab
namespace Go.Ab
open Go Go.RowKit Go.Proofs Go.Sh Go.En
abbrev q2r (g:Hs) (i:Int) (c:Int) (m:Int) (Pq:Prop):Prop:=okH g=true/\isThing g i=true/\within c 0 2=true/\within m 0 99=true->Pq
theorem w84 (g:Hs) (i:Int) (c:Int) (m:Int)
 (o0:q2r g i c m (fitsH g))
 (o1:q2r g i c m ((bif bif isThing g i then within c 0 2 else false then within m 0 99 else false)=true))
 (o2:q2r g i c m (okW g=true))
 (o3:q2r g i c m (0<=i))
 (o4:q2r g i c m (i < 8))
 (o5:q2r g i c m (hasB (tS g c (Hs.things g).length) m i=hasH g i c m)) :
  Triple Try.prog 84 (s84 g i c m):=by
 refine triple_of Try.func84 rfl Try.call84 T0_ok _ rfl rfl rfl rfl (Nat.le_of_ble_eq_true (by kernel_rfl)) (fun _ _ _ _ h=>h) ?_
 intro hpre C hC _ hE
 obtain ⟨P,w0,E0,av,hA,ro,df⟩:=C
 obtain ⟨rfl,rfl,rfl⟩:=hC
 refine swp_seq ?_
 refine zR [1,2,3,4] [0] (Ak 3 tv) ?_
 refine swp_seq ?_
 refine swp_seq ?_
 refine zC ([(3,CallSpec.eq (s110 g i) [true,true]),(6,CallSpec.eq (s43 c) [true]),(10,CallSpec.eq (s44 m) [true]),(12,CallSpec.eq (s42 g (bif bif isThing g i then within c 0 2 else false then within m 0 99 else false)) [true,true])]) [1,2,3,4,10] [0] (Ak 3 (An (An (An (zr (AV.agg (cHs g))) (An (zr (iv i)) tv)) (An (t110 (g) (i)) (An (o0 hpre) (Ak 1 (fun (i0:Env)=>tv))))) (Ak 1 (An (fun (y1:isThing g i=true)=>(An (Ak 1 tv) tv)) (An (fun (y2:isThing g i=true)=>(An (Ak 1 (An (fun (y3:isThing g i=true)=>y2) tv)) (An (An (zr (iv c)) tv) (An (t43 (c)) (Ak 2 (fun (i4:Env)=>tv)))))) (An (An (fun (y5:isThing g i=true)=>y5) (fun (y6:isThing g i=false)=>tv)) (Ak 1 (An (fun (y7:(bif isThing g i then within c 0 2 else false)=true)=>(An (Ak 1 tv) tv)) (An (fun (y8:(bif isThing g i then within c 0 2 else false)=true)=>(An (Ak 1 (An (fun (y9:(bif isThing g i then within c 0 2 else false)=true)=>y8) tv)) (An (An (zr (iv m)) tv) (An (t44 (m)) (Ak 2 (fun (i10:Env)=>tv)))))) (An (An (fun (y11:(bif isThing g i then within c 0 2 else false)=true)=>y11) (fun (y12:(bif isThing g i then within c 0 2 else false)=false)=>tv)) (An (An (An (zr (AV.agg (cHs g))) (An (zr (bv (bif bif isThing g i then within c 0 2 else false then within m 0 99 else false))) tv)) (An (t42 (g) (bif bif isThing g i then within c 0 2 else false then within m 0 99 else false)) (An (An hpre.1 (o1 hpre)) (Ak 1 (fun (i13:Env)=>tv))))) (Ak 1 tv)))))))))))) ?_
 refine swp_seq ?_
 refine zR [1,2,3,4,10,25] [0] (Ak 2 tv) ?_
 refine zf ?_
 refine swp_skip ?_
 refine swp_seq ?_
 refine zC ([(2,CallSpec.eq (s112 g c) [true,true]),(5,CallSpec.eq (s119 g c (tS g c (Hs.things g).length) (tB g c (Hs.things g).length) i m) [true,true,true])]) [8,9] [] (Ak 2 (An (An (An (zr (AV.agg (cHs g))) (An (zr (iv c)) tv)) (An (t112 (g) (c)) (An (o2 hpre) (Ak 1 (fun (i14:Env)=>tv))))) (Ak 2 (An (An (An (zr (AV.rp (cHo g c (tS g c (Hs.things g).length) (tB g c (Hs.things g).length)))) (An (zr (iv i)) (An (zr (iv m)) tv))) (An (t119 (g) (c) (tS g c (Hs.things g).length) (tB g c (Hs.things g).length) (i) (m)) (An (An (o3 hpre) (o4 hpre)) (Ak 1 (fun (i15:Env)=>tv))))) (Ak 2 tv))))) ?_
 refine swp_ret ?_
 exact zT [] (An (Ak 2 tv) (An (An (An (cb (o5 hpre)) (zr nilN)) (An (An (zr (iv 0)) (zr nilN)) tv)) (An (zr true) (An (zr true) (zr true)))))
theorem t84 (g:Hs) (i c m:Int):Triple Try.prog 84 (s84 g i c m):=by
 apply w84
 all_goals (try delta q2r)
 all_goals (first | ((repeat intro _) <;> (try simp only [Bool.cond_true_left,Bool.cond_false_right,Bool.not_not,Bool.not_eq_true',Bool.not_eq_false',Bool.or_eq_true,Bool.or_eq_false_iff,Bool.and_eq_true,decide_eq_true_eq,decide_eq_false_iff_not,inI,big] at *) <;> first | (exact rfl) | omega | (exact ⟨Nat.zero_le _,fun j hj=>absurd hj (Nat.not_lt_zero j)⟩) | (simp_all; done) | (simp_all; omega)) | skip)
 all_goals (intro hp; obtain ⟨hok,hi,hc,hm⟩:=hp; have hi:=isThing_iff.1 hi; obtain ⟨l1,l2,hT,hM⟩:=okH_iff.1 hok)
 case o0=>exact ⟨by omega,by omega⟩
 case o2=>exact okH_W hok
 all_goals omega
abbrev q2s (l:List Int) (p:Int->Bool) (E0:Env) (Pq:Prop):Prop:=fnokOf Try.prog 0 (fun (m:Int)=>[iv m]) (fun (m:Int)=>bv (p m)) E0->l.length<=1125899906842624->Pq
abbrev q2t (l:List Int) (p:Int->Bool) (x0:Nat) (Pq:Prop):Prop:=(x0<=l.length /\ ∀ (j:Nat),j < x0->p (l.getD j 0)=false)->Pq
abbrev q2u (l:List Int) (p:Int->Bool) (x0:Nat) (Pq:Prop):Prop:=q2t l p x0 (decide ((x0:Int) < (↑(l.length):Int))=true->Pq)
theorem w127z (l:List Int) (p:Int->Bool)
 (o0:∀ (E0:Env),q2s l p E0 (0=(↑0:Int)))
 (o1:∀ (E0:Env),q2s l p E0 (0<=l.length /\ ∀ (j:Nat),j < 0->p (l.getD j 0)=false))
 (o2:∀ (E0:Env),q2s l p E0 (∀ (x0:Nat),q2u l p x0 (0<=(x0:Int))))
 (o3:∀ (E0:Env),q2s l p E0 (∀ (x0:Nat),q2u l p x0 ((x0:Int) < (↑(l.length):Int))))
 (o4:∀ (E0:Env),q2s l p E0 (∀ (x0:Nat),q2u l p x0 (∀ (i2:Value),E0.4 0 i2->FnOK Try.prog E0 i2 [iv (l.getD x0 0)] (bv (p (l.getD x0 0))))))
 (o5:∀ (E0:Env),q2s l p E0 (∀ (x0:Nat),q2u l p x0 (p (l.getD x0 0)=true->(x0:Int)=idxG l p)))
 (o6:∀ (E0:Env),q2s l p E0 (∀ (x0:Nat),q2u l p x0 (p (l.getD x0 0)=false->inI ((x0:Int) + 1))))
 (o7:∀ (E0:Env),q2s l p E0 (∀ (x0:Nat),q2u l p x0 (p (l.getD x0 0)=false->(x0:Int) + 1=(↑(x0 + 1):Int))))
 (o8:∀ (E0:Env),q2s l p E0 (∀ (x0:Nat),q2u l p x0 (p (l.getD x0 0)=false->x0 + 1<=l.length /\ ∀ (j:Nat),j < x0 + 1->p (l.getD j 0)=false)))
 (o9:∀ (E0:Env),q2s l p E0 (∀ (x0:Nat),q2u l p x0 (p (l.getD x0 0)=false->l.length - (x0 + 1) < l.length - x0)))
 (o10:∀ (E0:Env),q2s l p E0 (∀ (x0:Nat),q2t l p x0 (decide ((x0:Int) < (↑(l.length):Int))=false -> -1=idxG l p))) :
  Triple Try.prog 127 (s127z l p):=by
 refine triple_of Try.func127 rfl Try.call127 T0_ok _ rfl rfl rfl rfl (Nat.le_of_ble_eq_true (by kernel_rfl)) fnokOf_congr ?_
 intro hpre C hC hfn hE
 obtain ⟨P,w0,E0,av,hA,ro,df⟩:=C
 obtain ⟨rfl,rfl,rfl⟩:=hC
 refine swp_seq ?_
 refine zR [0,1] [] (Ak 1 tv) ?_
 refine swp_seq ?_
 refine swp_seq ?_
 refine zR [0,1,7,8] [] (Ak 3 tv) ?_
 refine swp_block ?_
 refine zL (Hint.ann (h127z l p) [(0,aInts l),(1,AV.fn 0),(7,iv (↑(l.length):Int))] [] 10032) (zE hE [] [] [0,1,7] [] (An (An (An (zr (aInts l)) (zr true)) (An (An (zr (AV.fn 0)) (zr true)) (An (An (zr (iv (↑(l.length):Int))) (zr true)) (An (An (ci (o0 E0 hfn hpre)) (zr nilN)) tv)))) (Ak 1 (An (zr true) (zr true))))) (o1 E0 hfn hpre) (fun (x0:Nat) hx0 => ?_)
 refine swp_seq ?_
 refine zR [0,1,7,8,9] [] (Ak 1 tv) ?_
 refine swp_seq ?_
 refine zI (decide ((x0:Int) < (↑(l.length):Int))) (fun y1 => ?_) (fun y1 => ?_)
 ·refine swp_skip ?_
  refine swp_seq ?_
  refine swp_block ?_
  refine swp_seq ?_
  refine zR [0,1,7,8,5] [] (Ak 2 tv) ?_
  refine swp_seq ?_
  refine zC ([(5,CallSpec.eq (c127z l p x0) [true])]) [0,1,7,8,5,16] [] (Ak 3 (An (An (o2 E0 hfn hpre x0 hx0 y1) (o3 E0 hfn hpre x0 hx0 y1)) (Ak 1 (An (An (An (zr (iv (l.getD x0 0))) tv) (fun (i2:Value)=>(fun (y3:E0.4 0 i2)=>(o4 E0 hfn hpre x0 hx0 y1 i2 y3)))) tv)))) ?_
  refine zI (p (l.getD x0 0)) (fun y4 => ?_) (fun y4 => ?_)
  ·refine swp_seq ?_
   refine zR [4] [] (Ak 2 tv) ?_
   refine swp_ret ?_
   exact zT [] (An (Ak 1 tv) (An (An (ci (o5 E0 hfn hpre x0 hx0 y1 y4)) (zr nilN)) (An (zr true) (An (zr true) (zr true)))))
  ·refine swp_skip ?_
   refine zR [0,1,7,8] [] (An (o6 E0 hfn hpre x0 hx0 y1 y4) (Ak 1 tv)) ?_
   exact zn (zE hE [] [] [0,1,7] [] (An (An (An (zr (aInts l)) (zr true)) (An (An (zr (AV.fn 0)) (zr true)) (An (An (zr (iv (↑(l.length):Int))) (zr true)) (An (An (ci (o7 E0 hfn hpre x0 hx0 y1 y4)) (zr nilN)) tv)))) (Ak 1 (An (zr true) (zr true))))) (o8 E0 hfn hpre x0 hx0 y1 y4) (o9 E0 hfn hpre x0 hx0 y1 y4)
 ·refine swp_exit ?_
  refine swp_seq ?_
  refine zR [4] [] (Ak 1 tv) ?_
  refine swp_ret ?_
  exact zT [] (An (Ak 1 tv) (An (An (ci (o10 E0 hfn hpre x0 hx0 y1)) (zr nilN)) (An (zr true) (An (zr true) (zr true)))))
theorem t127z (l:List Int) (p:Int->Bool):Triple Try.prog 127 (s127z l p):=by
 apply w127z
 all_goals (try delta q2s q2t q2u)
 case o4=>intro E0 hfn hp x hx hl u hu; exact hfn u hu _
 case o5=>intro E0 hfn hp x hx hl h; simp only [decide_eq_true_eq] at hl; exact (idxG_found (l:=l) (p:=p) (by omega) hx.2 h).symm
 case o8=>intro E0 hfn hp x hx hl h; simp only [decide_eq_true_eq] at hl; exact ⟨by omega,lt_succ_cases hx.2 h⟩
 case o10=>intro E0 hfn hp x hx hl; simp only [decide_eq_false_iff_not] at hl; exact (idxG_none (l:=l) (p:=p) (fun j hj=>hx.2 j (by omega))).symm
 all_goals (first | ((repeat intro _) <;> (try simp only [Bool.cond_true_left,Bool.cond_false_right,Bool.not_not,Bool.not_eq_true',Bool.not_eq_false',Bool.or_eq_true,Bool.or_eq_false_iff,Bool.and_eq_true,decide_eq_true_eq,decide_eq_false_iff_not,inI,big] at *) <;> first | (exact rfl) | omega | (exact ⟨Nat.zero_le _,fun j hj=>absurd hj (Nat.not_lt_zero j)⟩) | (simp_all; done) | (simp_all; omega)) | skip)
theorem w117 (l:List Int) (p:Int->Bool)
  (o0:∀ (E0:Env),fnokOf Try.prog 0 (fun (m:Int)=>[iv m]) (fun (m:Int)=>bv (p m)) E0->l.length<=1125899906842624 -> ∀ (i0:Env) (i1:List Value),Env.le E0 i0->i1.length=2->(∀ (k:Nat),Rel i0 true (List.getD [aInts l,AV.fn 0] k AV.any) (i1.getD k undef))->fnokOf Try.prog 0 (fun (m:Int)=>[iv m]) (fun (m:Int)=>bv (p m)) (Env.mk i0.1 i0.2 i0.3 fun (k:Nat) (u:Value) => ∃ (i:Nat),[aInts l,AV.fn 0][i]? = some (AV.fn k)/\i1[i]? = some u))
  (o1:∀ (E0:Env),fnokOf Try.prog 0 (fun (m:Int)=>[iv m]) (fun (m:Int)=>bv (p m)) E0->l.length<=1125899906842624->decide (0<=idxG l p)=List.any l p) :
  Triple Try.prog 117 (s117 l p):=by
 refine triple_of Try.func117 rfl Try.call117 T0_ok _ rfl rfl rfl rfl (Nat.le_of_ble_eq_true (by kernel_rfl)) fnokOf_congr ?_
 intro hpre C hC hfn hE
 obtain ⟨P,w0,E0,av,hA,ro,df⟩:=C
 obtain ⟨rfl,rfl,rfl⟩:=hC
 refine swp_seq ?_
 refine zR [0,1] [] (Ak 1 tv) ?_
 refine swp_seq ?_
 refine zC ([(2,CallSpec.eq (c117 l p) [true,true])]) [4] [] (Ak 2 (An (An (An (zr (aInts l)) (An (zr (AV.fn 0)) tv)) (An (t127z (l) (p)) (An hpre (Ak 1 (fun (i0:Env)=>(fun (i1:List Value)=>(fun (y2:Env.le E0 i0)=>(fun (y3:i1.length=2)=>(fun (y4:∀ (k:Nat),Rel i0 true (List.getD [aInts l,AV.fn 0] k AV.any) (i1.getD k undef))=>(o0 E0 hfn hpre i0 i1 y2 y3 y4)))))))))) (Ak 2 tv))) ?_
 refine swp_ret ?_
 exact zT [] (An (Ak 1 tv) (An (An (cb (o1 E0 hfn hpre)) (zr nilN)) (An (zr true) (An (zr true) (zr true)))))
theorem t117 (l:List Int) (p:Int->Bool):Triple Try.prog 117 (s117 l p):=by
 apply w117
 case o0 =>
  intro E0 hfn hp E us le hl hr
  refine fnok_pass 1 (fun j' h => ?_) rfl hfn E us le hl hr
  match j',h with
  | 0,h=>cases h
  | 1,_=>rfl
  | n + 2,h=>simp at h
 case o1=>intros; exact idxG_any _ _
 all_goals (first | ((repeat intro _) <;> (try simp only [Bool.cond_true_left,Bool.cond_false_right,Bool.not_not,Bool.not_eq_true',Bool.not_eq_false',Bool.or_eq_true,Bool.or_eq_false_iff,Bool.and_eq_true,decide_eq_true_eq,decide_eq_false_iff_not,inI,big] at *) <;> first | (exact rfl) | omega | (exact ⟨Nat.zero_le _,fun j hj=>absurd hj (Nat.not_lt_zero j)⟩) | (simp_all; done) | (simp_all; omega)) | skip)
theorem w116 (n:Int) (lo:Int) (hi:Int) :
  Triple Try.prog 116 (s116 n lo hi):=by
 refine triple_of Try.func116 rfl Try.call116 T0_ok _ rfl rfl rfl rfl (Nat.le_of_ble_eq_true (by kernel_rfl)) (fun _ _ _ _ h=>h) ?_
 intro _ C hC _ hE
 obtain ⟨P,w0,E0,av,hA,ro,df⟩:=C
 obtain ⟨rfl,rfl,rfl⟩:=hC
 refine swp_seq ?_
 refine zR [0,1,2] [] (Ak 1 tv) ?_
 refine swp_seq ?_
 refine zC ([(3,CallSpec.eq (s85 n lo hi) [true,true,true])]) [4] [] (Ak 3 (An (An (An (zr (iv n)) (An (zr (iv lo)) (An (zr (iv hi)) tv))) (An (t85 (n) (lo) (hi)) (Ak 2 (fun (i0:Env)=>tv)))) (Ak 2 tv))) ?_
 refine swp_ret ?_
 exact zT [] (An (Ak 1 tv) (An (An (zr (bv !within n lo hi)) (zr nilN)) (An (zr true) (An (zr true) (zr true)))))
theorem t116 (n lo hi:Int):Triple Try.prog 116 (s116 n lo hi):=by
 apply w116
 all_goals (first | ((repeat intro _) <;> (try simp only [Bool.cond_true_left,Bool.cond_false_right,Bool.not_not,Bool.not_eq_true',Bool.not_eq_false',Bool.or_eq_true,Bool.or_eq_false_iff,Bool.and_eq_true,decide_eq_true_eq,decide_eq_false_iff_not,inI,big] at *) <;> first | (exact rfl) | omega | (exact ⟨Nat.zero_le _,fun j hj=>absurd hj (Nat.not_lt_zero j)⟩) | (simp_all; done) | (simp_all; omega)) | skip)
theorem w115 (lo:Int) (hi:Int) :
  Triple Try.prog 115 (s115 lo hi):=by
 refine triple_of Try.func115 rfl Try.call115 T0_ok _ rfl rfl rfl rfl (Nat.le_of_ble_eq_true (by kernel_rfl)) (fun _ _ _ _ h=>h) ?_
 intro _ C hC _ hE
 obtain ⟨P,w0,E0,av,hA,ro,df⟩:=C
 obtain ⟨rfl,rfl,rfl⟩:=hC
 refine swp_seq ?_
 refine zR [2,3] [0,8] (Ak 3 tv) ?_
 refine swp_seq ?_
 refine swp_ent (zF 0) ?_
 refine swp_ent (zF 8) ?_
 refine zR [4] [] (Ak 2 tv) ?_
 refine swp_ret ?_
 exact zT [] (An (Ak 1 tv) (An (An (zr 116) (An (An (zr (AV.rp [iv lo])) (zr nilN)) (An (An (zr (AV.rp [iv hi])) (zr nilN)) tv))) (An (zr true) (An (zr true) (zr true)))))
theorem t115 (lo hi:Int):Triple Try.prog 115 (s115 lo hi):=by
 apply w115
 all_goals (first | ((repeat intro _) <;> (try simp only [Bool.cond_true_left,Bool.cond_false_right,Bool.not_not,Bool.not_eq_true',Bool.not_eq_false',Bool.or_eq_true,Bool.or_eq_false_iff,Bool.and_eq_true,decide_eq_true_eq,decide_eq_false_iff_not,inI,big] at *) <;> first | (exact rfl) | omega | (exact ⟨Nat.zero_le _,fun j hj=>absurd hj (Nat.not_lt_zero j)⟩) | (simp_all; done) | (simp_all; omega)) | skip)
theorem w137 (n:Int) :
  Triple Try.prog 137 (s137 n):=by
 refine triple_of Try.func137 rfl Try.call137 T0_ok _ rfl rfl rfl rfl (Nat.le_of_ble_eq_true (by kernel_rfl)) (fun _ _ _ _ h=>h) ?_
 intro _ C hC _ hE
 obtain ⟨P,w0,E0,av,hA,ro,df⟩:=C
 obtain ⟨rfl,rfl,rfl⟩:=hC
 refine swp_seq ?_
 refine zR [0] [] (Ak 1 tv) ?_
 refine swp_seq ?_
 refine zR [2] [] (Ak 3 tv) ?_
 refine swp_ret ?_
 exact zT [] (An (Ak 1 tv) (An (An (zr (bv (decide (n < 0)))) (zr nilN)) (An (zr true) (An (zr true) (zr true)))))
theorem t137 (n:Int):Triple Try.prog 137 (s137 n):=by
 apply w137
 all_goals (first | ((repeat intro _) <;> (try simp only [Bool.cond_true_left,Bool.cond_false_right,Bool.not_not,Bool.not_eq_true',Bool.not_eq_false',Bool.or_eq_true,Bool.or_eq_false_iff,Bool.and_eq_true,decide_eq_true_eq,decide_eq_false_iff_not,inI,big] at *) <;> first | (exact rfl) | omega | (exact ⟨Nat.zero_le _,fun j hj=>absurd hj (Nat.not_lt_zero j)⟩) | (simp_all; done) | (simp_all; omega)) | skip)
abbrev q2v (t:Twn) (Pq:Prop):Prop:=okTwn t=true->Pq
abbrev q2w (t:Twn) (x1:Nat) (Pq:Prop):Prop:=x1<=(Twn.places t).length->Pq
abbrev q2x (t:Twn) (x1:Nat) (Pq:Prop):Prop:=q2w t x1 (decide ((x1:Int) < (↑((Twn.places t).length):Int))=true->Pq)
abbrev q2y (t:Twn) (x1:Nat) (Pq:Prop):Prop:=q2x t x1 (decide (Thg.at_ (thg (Twn.house t) x1)<=Twn.minute t)=true->Pq)
abbrev q2z (t:Twn) (x1:Nat) (Pq:Prop):Prop:=q2x t x1 (decide (Thg.at_ (thg (Twn.house t) x1)<=Twn.minute t)=false->Pq)
abbrev q30 (t:Twn) (x1:Nat) (Pq:Prop):Prop:=q2w t x1 (decide ((x1:Int) < (↑((Twn.places t).length):Int))=false->Pq)
theorem w118 (t:Twn)
 (o0:q2v t ((Twn.rooms t).length<=60000))
 (o1:q2v t (0=(↑0:Int)))
 (o2:q2v t (∀ (i2:Nat),i2 < (Twn.rooms t).length -> [iv ((Twn.rooms t).getD i2 0)] = [iv ((Twn.rooms t).getD i2 0 - (↑(cntB t (Twn.places t) (i2:Int) 0):Int))]))
 (o3:q2v t (0<=List.length (Twn.places t)))
 (o4:q2v t (∀ (x1:Nat),q2x t x1 (0<=(x1:Int))))
 (o5:q2v t (∀ (x1:Nat),q2x t x1 ((x1:Int) < (↑((Twn.places t).length):Int))))
 (o6:q2v t (∀ (x1:Nat),q2x t x1 (0<=(x1:Int))))
 (o7:q2v t (∀ (x1:Nat),q2x t x1 ((x1:Int) < (↑((Hs.things (Twn.house t)).length):Int))))
 (o8:q2v t (∀ (x1:Nat),q2y t x1 (0<=(Twn.places t).getD x1 0)))
 (o9:q2v t (∀ (x1:Nat),q2y t x1 ((Twn.places t).getD x1 0 < (↑((Twn.rooms t).length):Int))))
 (o10:q2v t (∀ (x1:Nat),q2y t x1 (((Twn.places t).getD x1 0).toNat < (Twn.rooms t).length)))
 (o11:q2v t (∀ (x1:Nat),q2y t x1 (inI ((Twn.rooms t).getD ((Twn.places t).getD x1 0).toNat 0 - (↑(cntB t (Twn.places t) (↑(((Twn.places t).getD x1 0).toNat):Int) x1):Int) - 1))))
 (o12:q2v t (∀ (x1:Nat),q2y t x1 (0<=(Twn.places t).getD x1 0)))
 (o13:q2v t (∀ (x1:Nat),q2y t x1 ((Twn.places t).getD x1 0 < (↑((Twn.rooms t).length):Int))))
 (o14:q2v t (∀ (x1:Nat),q2y t x1 (((Twn.places t).getD x1 0).toNat < (Twn.rooms t).length)))
 (o15:q2v t (∀ (x1:Nat),q2y t x1 (inI ((x1:Int) + 1))))
 (o16:q2v t (∀ (x1:Nat),q2y t x1 ((x1:Int) + 1=(↑(x1 + 1):Int))))
 (o17:q2v t (∀ (x1:Nat),q2y t x1 (∀ (i6:Nat),i6 < (Twn.rooms t).length->Decidable.rec (fun (h:¬i6=((Twn.places t).getD x1 0).toNat)=>[iv ((Twn.rooms t).getD i6 0 - (↑(cntB t (Twn.places t) (i6:Int) x1):Int))]) (fun (h:i6=((Twn.places t).getD x1 0).toNat)=>[iv ((Twn.rooms t).getD ((Twn.places t).getD x1 0).toNat 0 - (↑(cntB t (Twn.places t) (↑(((Twn.places t).getD x1 0).toNat):Int) x1):Int) - 1)] ++ []) (instDecidableEqNat i6 ((Twn.places t).getD x1 0).toNat) = [iv ((Twn.rooms t).getD i6 0 - (↑(cntB t (Twn.places t) (i6:Int) (x1 + 1)):Int))])))
 (o18:q2v t (∀ (x1:Nat),q2y t x1 (x1 + 1<=(Twn.places t).length)))
 (o19:q2v t (∀ (x1:Nat),q2y t x1 ((Twn.places t).length - (x1 + 1) < (Twn.places t).length - x1)))
 (o20:q2v t (∀ (x1:Nat),q2z t x1 (inI ((x1:Int) + 1))))
 (o21:q2v t (∀ (x1:Nat),q2z t x1 ((x1:Int) + 1=(↑(x1 + 1):Int))))
 (o22:q2v t (∀ (x1:Nat),q2z t x1 (∀ (i8:Nat),i8 < (Twn.rooms t).length -> [iv ((Twn.rooms t).getD i8 0 - (↑(cntB t (Twn.places t) (i8:Int) x1):Int))] = [iv ((Twn.rooms t).getD i8 0 - (↑(cntB t (Twn.places t) (i8:Int) (x1 + 1)):Int))])))
 (o23:q2v t (∀ (x1:Nat),q2z t x1 (x1 + 1<=(Twn.places t).length)))
 (o24:q2v t (∀ (x1:Nat),q2z t x1 ((Twn.places t).length - (x1 + 1) < (Twn.places t).length - x1)))
 (o25:q2v t (∀ (x1:Nat),q30 t x1 ((Twn.rooms t).length=(roomsL t (Twn.places t).length).length)))
 (o26:q2v t (∀ (x1:Nat),q30 t x1 (∀ (i22:Nat),i22 < (roomsL t (Twn.places t).length).length -> [iv ((Twn.rooms t).getD i22 0 - (↑(cntB t (Twn.places t) (i22:Int) x1):Int))] = [iv ((roomsL t (Twn.places t).length).getD i22 0)])))
 (o27:q2v t (∀ (x1:Nat),q30 t x1 ((roomsL t (Twn.places t).length).length<=1125899906842624)))
 (o28:∀ (E0:Env),okTwn t=true -> ∀ (x1:Nat),x1<=(Twn.places t).length->decide ((x1:Int) < (↑((Twn.places t).length):Int))=false -> ∀ (i24:Env) (i25:List Value),Env.le E0 i24->i25.length=2->(∀ (k:Nat),Rel i24 true (List.getD [AV.sl 1 (Twn.rooms t).length fun (k:Nat)=>[iv ((Twn.rooms t).getD k 0 - (↑(cntB t (Twn.places t) (k:Int) x1):Int))],AV.clo 137 []] k AV.any) (i25.getD k undef))->fnokOf Try.prog 0 (fun (m:Int)=>[iv m]) (fun (m:Int)=>bv (decide (m < 0))) (Env.mk i24.1 i24.2 i24.3 fun (k:Nat) (u:Value) => ∃ (i:Nat),[aInts (roomsL t (Twn.places t).length),AV.fn 0][i]? = some (AV.fn k)/\i25[i]? = some u))
 (o29:q2v t (∀ (x1:Nat),q30 t x1 ((!List.any (roomsL t (Twn.places t).length) fun (n:Int)=>decide (n < 0))=roomyT t (Twn.places t)))) :
  Triple Try.prog 118 (s118 t):=by
 refine triple_of Try.func118 rfl Try.call118 T0_ok _ rfl rfl rfl rfl (Nat.le_of_ble_eq_true (by kernel_rfl)) (fun _ _ _ _ h=>h) ?_
 intro hpre C hC _ hE
 obtain ⟨P,w0,E0,av,hA,ro,df⟩:=C
 obtain ⟨rfl,rfl,rfl⟩:=hC
 refine swp_seq ?_
 refine zR [1,2] [0] (Ak 2 tv) ?_
 refine swp_seq ?_
 refine zC ([(2,CallSpec.eq (c118c t 32) [true])]) [1,2,5] [0,32] (Ak 2 (An (An (An (zr (aInts (Twn.rooms t))) tv) (An (t93o (Twn.rooms t) (32)) (An (o0 hpre) (Ak 1 (fun (i0:Env)=>tv))))) (Ak 1 tv))) ?_
 refine swp_seq ?_
 refine swp_seq ?_
 refine zR [2,5,11,12,13] [0,32] (Ak 3 tv) ?_
 refine swp_block ?_
 refine zL (Hint.ann (h118 t) [(2,AV.ptr 0 []),(11,aInts (Twn.places t)),(12,iv (↑((Twn.places t).length):Int))] [(0,OB.cells 28 (cTwn t))] 10072) (zE hE [] [(0,.same 0),(5000,.same 32)] [11,12] [0] (An (An (An (zr (some (Src.same 0))) (zr nilP)) (An (An (zr (aInts (Twn.places t))) (zr true)) (An (An (zr (iv (↑((Twn.places t).length):Int))) (zr true)) (An (An (ci (o1 hpre)) (zr nilN)) (An (zr (some (Src.same 32))) tv))))) (An (An (An (zr (OB.cells 28 (cTwn t))) (zr true)) (An (An (zr 3) (An (zr 1) (An (zr (Twn.rooms t).length) (fun (i2:Nat)=>(fun (y3:i2 < (Twn.rooms t).length)=>(o2 hpre i2 y3)))))) tv)) (An (zr true) (zr true))))) (o3 hpre) (fun (x1:Nat) hx1 => ?_)
 refine swp_seq ?_
 refine zR [2,11,12,13,5,14] [0,5000] (Ak 1 tv) ?_
 refine swp_seq ?_
 refine zI (decide ((x1:Int) < (↑((Twn.places t).length):Int))) (fun y4 => ?_) (fun y4 => ?_)
 ·refine swp_skip ?_
  refine swp_seq ?_
  refine swp_block ?_
  refine swp_seq ?_
  refine zR [2,11,12,13,5,6,7] [0,5000] (Ak 1 (An (An (o4 hpre x1 hx1 y4) (o5 hpre x1 hx1 y4)) (Ak 3 tv))) ?_
  refine swp_seq ?_
  refine zR [2,11,12,13,5,7,27] [0,5000] (Ak 4 (An (An (o6 hpre x1 hx1 y4) (o7 hpre x1 hx1 y4)) (Ak 5 tv))) ?_
  refine zI (decide (Thg.at_ (thg (Twn.house t) x1)<=Twn.minute t)) (fun y5 => ?_) (fun y5 => ?_)
  ·refine zR [2,11,12,13,5] [0,5000] (Ak 2 (An (An (o8 hpre x1 hx1 y4 y5) (o9 hpre x1 hx1 y4 y5)) (An (An (o10 hpre x1 hx1 y4 y5) tv) (An (o11 hpre x1 hx1 y4 y5) (An (An (o12 hpre x1 hx1 y4 y5) (o13 hpre x1 hx1 y4 y5)) (An (An (o14 hpre x1 hx1 y4 y5) tv) tv)))))) ?_
   refine zR [2,11,12,13,5] [0,5000] (An (o15 hpre x1 hx1 y4 y5) (Ak 1 tv)) ?_
   exact zn (zE hE [] [(0,.same 0),(5000,.same 5000)] [11,12] [0] (An (An (An (zr (some (Src.same 0))) (zr nilP)) (An (An (zr (aInts (Twn.places t))) (zr true)) (An (An (zr (iv (↑((Twn.places t).length):Int))) (zr true)) (An (An (ci (o16 hpre x1 hx1 y4 y5)) (zr nilN)) (An (zr (some (Src.same 5000))) tv))))) (An (An (An (zr (OB.cells 28 (cTwn t))) (zr true)) (An (An (zr 3) (An (zr 1) (An (zr (Twn.rooms t).length) (fun (i6:Nat)=>(fun (y7:i6 < (Twn.rooms t).length)=>(o17 hpre x1 hx1 y4 y5 i6 y7)))))) tv)) (An (zr true) (zr true))))) (o18 hpre x1 hx1 y4 y5) (o19 hpre x1 hx1 y4 y5)
  ·refine swp_skip ?_
   refine zR [2,11,12,13,5] [0,5000] (An (o20 hpre x1 hx1 y4 y5) (Ak 1 tv)) ?_
   exact zn (zE hE [] [(0,.same 0),(5000,.same 5000)] [11,12] [0] (An (An (An (zr (some (Src.same 0))) (zr nilP)) (An (An (zr (aInts (Twn.places t))) (zr true)) (An (An (zr (iv (↑((Twn.places t).length):Int))) (zr true)) (An (An (ci (o21 hpre x1 hx1 y4 y5)) (zr nilN)) (An (zr (some (Src.same 5000))) tv))))) (An (An (An (zr (OB.cells 28 (cTwn t))) (zr true)) (An (An (zr 3) (An (zr 1) (An (zr (Twn.rooms t).length) (fun (i8:Nat)=>(fun (y9:i8 < (Twn.rooms t).length)=>(o22 hpre x1 hx1 y4 y5 i8 y9)))))) tv)) (An (zr true) (zr true))))) (o23 hpre x1 hx1 y4 y5) (o24 hpre x1 hx1 y4 y5)
 ·refine swp_exit ?_
  refine swp_seq ?_
  refine swp_ent (zE (st2:=ASt.mk [(2,AV.ptr 0 []),(11,aInts (Twn.places t)),(12,iv (↑((Twn.places t).length):Int)),(13,iv (x1:Int)),(5,AV.sl 1 (Twn.rooms t).length fun (k:Nat)=>[iv ((Twn.rooms t).getD k 0 - (↑(cntB t (Twn.places t) (k:Int) x1):Int))]),(14,bv (decide ((x1:Int) < (↑((Twn.places t).length):Int))))] [(0,OB.cells 28 [AV.sl 4 (Hs.things (Twn.house t)).length fun (i:Nat)=>cThg (thg (Twn.house t) i),AV.sl 3 (Hs.marks (Twn.house t)).length fun (i:Nat)=>cMrk ((Hs.marks (Twn.house t)).getD i default),AV.sl 1 (Twn.places t).length fun (i:Nat)=>[iv ((Twn.places t).getD i 0)],AV.sl 1 (Twn.carry t).length fun (i:Nat)=>[iv ((Twn.carry t).getD i 0)],AV.sl 1 (Twn.rooms t).length fun (i:Nat)=>[iv ((Twn.rooms t).getD i 0)],iv (Twn.minute t)])] 10080) hE [5000] [(0,.same 0)] [11,12,13,14] [] (An (An (An (zr (some (Src.same 0))) (zr nilP)) (An (An (zr (aInts (Twn.places t))) (zr true)) (An (An (zr (iv (↑((Twn.places t).length):Int))) (zr true)) (An (An (zr (iv (x1:Int))) (zr true)) (An (An (zr 1) (An (zr (Twn.rooms t).length) (fun (i10:Nat)=>(fun (y11:i10 < (Twn.rooms t).length)=>(zr ([iv ((Twn.rooms t).getD i10 0 - (↑(cntB t (Twn.places t) (i10:Int) x1):Int))])))))) (An (An (zr (bv (decide ((x1:Int) < (↑((Twn.places t).length):Int))))) (zr true)) tv)))))) (An (An (An (zr 28) (An (An (An (zr 4) (An (zr (Hs.things (Twn.house t)).length) (fun (i12:Nat)=>(fun (y13:i12 < (Hs.things (Twn.house t)).length)=>(zr (cThg (thg (Twn.house t) i12))))))) (An (An (zr 3) (An (zr (Hs.marks (Twn.house t)).length) (fun (i14:Nat)=>(fun (y15:i14 < (Hs.marks (Twn.house t)).length)=>(zr (cMrk ((Hs.marks (Twn.house t)).getD i14 default))))))) (An (An (zr 1) (An (zr (Twn.places t).length) (fun (i16:Nat)=>(fun (y17:i16 < (Twn.places t).length)=>(zr ([iv ((Twn.places t).getD i16 0)])))))) (An (An (zr 1) (An (zr (Twn.carry t).length) (fun (i18:Nat)=>(fun (y19:i18 < (Twn.carry t).length)=>(zr ([iv ((Twn.carry t).getD i18 0)])))))) (An (An (zr 1) (An (zr (Twn.rooms t).length) (fun (i20:Nat)=>(fun (y21:i20 < (Twn.rooms t).length)=>(zr ([iv ((Twn.rooms t).getD i20 0)])))))) (An (An (zr (iv (Twn.minute t))) (zr nilN)) tv)))))) (zr true))) tv) (An (zr true) (zr true))))) ?_
  refine zC ([(1,CallSpec.eq (c118 t) [false,false])]) [4] [] (Ak 1 (An (An (An (An (zr 1) (An (o25 hpre x1 hx1 y4) (fun (i22:Nat)=>(fun (y23:i22 < (roomsL t (Twn.places t).length).length)=>(o26 hpre x1 hx1 y4 i22 y23))))) (Ak 1 tv)) (An (t117 (roomsL t (Twn.places t).length) (fun (n:Int)=>decide (n < 0))) (An (o27 hpre x1 hx1 y4) (Ak 1 (fun (i24:Env)=>(fun (i25:List Value)=>(fun (y26:Env.le E0 i24)=>(fun (y27:i25.length=2)=>(fun (y28:∀ (k:Nat),Rel i24 true (List.getD [AV.sl 1 (Twn.rooms t).length fun (k:Nat)=>[iv ((Twn.rooms t).getD k 0 - (↑(cntB t (Twn.places t) (k:Int) x1):Int))],AV.clo 137 []] k AV.any) (i25.getD k undef))=>(o28 E0 hpre x1 hx1 y4 i24 i25 y26 y27 y28)))))))))) (Ak 2 tv))) ?_
  refine swp_ret ?_
  exact zT [] (An (Ak 1 tv) (An (An (cb (o29 hpre x1 hx1 y4)) (zr nilN)) (An (zr true) (An (zr true) (zr true)))))
theorem check7_0 {g:Hs}:check7 g=0 ↔ okH g=true:=by
 unfold check7
 cases okH g with
 | true=>simp
 | false=>simp
theorem okTwn_iff {t:Twn}:okTwn t=true ↔ okH t.house=true/\(1<=t.rooms.length/\t.rooms.length<=3)/\t.places.length=t.house.things.length/\t.carry.length=t.house.things.length/\(0<=t.minute/\t.minute<=99)/\(∀ i,i < t.places.length->okPl t i=true)/\(∀ i,i < t.rooms.length->okRm t i=true)/\roomyT t t.places=true:=by
 simp only [okTwn,okHead10,Bool.and_eq_true,decide_eq_true_eq,List.all_eq_true,List.mem_range,check7_0,Go.Sh.within_iff]
 constructor
 ·rintro ⟨⟨⟨⟨⟨⟨⟨a,b⟩,c⟩,d⟩,e⟩,f⟩,g⟩,h⟩; exact ⟨a,by omega,by omega,by omega,e,f,g,h⟩
 ·rintro ⟨a,b,c,d,e,f,g,h⟩; exact ⟨⟨⟨⟨⟨⟨⟨a,by omega⟩,by omega⟩,by omega⟩,e⟩,f⟩,g⟩,h⟩
theorem okPl_iff {t:Twn} {i:Nat}:okPl t i=true ↔ (0<=t.places.getD i 0/\t.places.getD i 0 < t.rooms.length)/\0<=t.carry.getD i 0/\t.carry.getD i 0<=99:=by
 simp only [okPl,isBld,Bool.and_eq_true,Go.Sh.within_iff]
 omega
theorem fitsT_ok {t:Twn} (h:okTwn t=true):fitsT t:=by
 obtain ⟨hH,hr,hpl,hca,hmi,hP,hR,hro⟩:=okTwn_iff.1 h
 obtain ⟨l1,l2,hT,hM⟩:=okH_iff.1 hH
 exact ⟨⟨by omega,by omega⟩,by omega,by omega,by omega⟩
theorem rooms_any (t:Twn):(!(roomsL t t.places.length).any fun n=>decide (n < 0))=roomyT t t.places:=by
 unfold roomsL roomyT
 rw [List.any_map,List.not_any_eq_all_not]
 congr 1
 funext k
 show (!decide (t.rooms.getD k 0 - (cntB t t.places (k:Int) t.places.length:Int) < 0))=rmB t t.places k
 unfold rmB
 congr 1
 exact decide_eq_decide.2 (by omega)
theorem t118 (t:Twn):Triple Try.prog 118 (s118 t):=by
  apply w118
  all_goals (try delta q2v q2w q2x q2y q2z q30)
  case o28 =>
    intro E0 hok x hx hl E us le hlen hr
    refine fnok_arg (vals:=[.sl 1 t.rooms.length (fun k=>[iv (t.rooms.getD k 0 - (cntB t t.places (k:Int) x:Int))]),.clo 137 []]) 1 (fun j' h => ?_) (fun E u hu m=>fnok_clo (caps:=[]) (s137 m) (t137 m) rfl trivial (fun _=>trivial) rfl rfl rfl rfl rfl hu) E us le hlen hr
    match j',h with
    | 0,h=>cases h
    | 1,_=>rfl
    | n + 2,h=>simp at h
  all_goals (first | ((repeat intro _) <;> (try simp only [Bool.cond_true_left,Bool.cond_false_right,Bool.not_not,Bool.not_eq_true',Bool.not_eq_false',Bool.or_eq_true,Bool.or_eq_false_iff,Bool.and_eq_true,decide_eq_true_eq,decide_eq_false_iff_not,inI,big] at *) <;> first | (exact rfl) | omega | (exact ⟨Nat.zero_le _,fun j hj=>absurd hj (Nat.not_lt_zero j)⟩) | (simp_all; done) | (simp_all; omega)) | skip)
  all_goals (intro hok; obtain ⟨hH,hr,hpl,hca,hmi,hP,hR,hro⟩:=okTwn_iff.1 hok; obtain ⟨l1,l2,hT,hM⟩:=okH_iff.1 hH)
  case o0=>omega
  case o2=>intro i _; show _ = [iv (t.rooms.getD i 0 - 0)]; rw [Int.sub_zero]
  all_goals (intro x hx hl; simp only [decide_eq_true_eq,decide_eq_false_iff_not] at hl)
  case o25=>rw [roomsL_len]
  case o26 => intro i hi; have e : x = t.places.length := by omega
              subst e; rw [roomsL_len] at hi; rw [roomsL_at _ _ hi]
  case o27=>rw [roomsL_len]; omega
  case o29=>exact rooms_any t
  case o7=>omega
  all_goals (have hb:=(okPl_iff.1 (hP x (by omega))).1)
  case o22 =>
    intro hh i hi
    rw [cntB,if_neg]
    intro h2
    simp only [inB,thereT,Bool.and_eq_true] at h2
    rw [hh] at h2; cases h2.2
  all_goals (intro hh)
  case o17 =>
    intro i hi
    refine rec_ei (fun h => ?_) (fun h => ?_)
    · rw [cntB,if_neg]
      intro h2
      simp only [inB,Bool.and_eq_true,decide_eq_true_eq] at h2
      omega
    · subst h
      rw [cntB,if_pos]
      · show [iv _] ++ [] = [iv _]
        rw [List.append_nil]
        exact congrArg (fun z=>[iv z]) (by push_cast; omega)
      · simp only [inB,thereT,Bool.and_eq_true,decide_eq_true_eq]
        exact ⟨by omega,of_decide_eq_true hh⟩
  case o11 =>
    have h1:=cntB_le t t.places ((t.places.getD x 0).toNat:Int) x
    have h2:=Go.Sh.within_iff.1 (hR (t.places.getD x 0).toNat (by omega))
    constructor <;> omega
  all_goals (first | omega | (constructor <;> omega))
abbrev q31 (t:Twn) (Pq:Prop):Prop:=okTwn t=true->Pq
theorem w83 (t:Twn)
 (o0:q31 t (okH (Twn.house t)=true))
 (o1:q31 t ((!within (↑((Twn.rooms t).length):Int) 1 3)=false))
 (o2:q31 t ((Twn.rooms t).length<=1125899906842624))
 (o3:∀ (E0:Env),okTwn t=true -> ∀ (i3:Env) (i4:List Value),Env.le E0 i3->i4.length=2->(∀ (k:Nat),Rel i3 true (List.getD [aInts (Twn.rooms t),AV.clo 116 [AV.rp [iv 0],AV.rp [iv 9]]] k AV.any) (i4.getD k undef))->fnokOf Try.prog 0 (fun (m:Int)=>[iv m]) (fun (m:Int)=>bv !within m 0 9) (Env.mk i3.1 i3.2 i3.3 fun (k:Nat) (u:Value) => ∃ (i:Nat),[aInts (Twn.rooms t),AV.fn 0][i]? = some (AV.fn k)/\i4[i]? = some u))
 (o4:q31 t ((List.any (Twn.rooms t) fun (n:Int) => !within n 0 9)=false))
 (o5:q31 t ((!decide ((↑((Twn.places t).length):Int)=(↑((Hs.things (Twn.house t)).length):Int)))=false))
 (o6:q31 t (inI ((↑((Twn.rooms t).length):Int) - 1)))
 (o7:q31 t ((Twn.places t).length<=1125899906842624))
 (o8:∀ (E0:Env),okTwn t=true -> ∀ (i9:Env) (i10:List Value),Env.le E0 i9->i10.length=2->(∀ (k:Nat),Rel i9 true (List.getD [aInts (Twn.places t),AV.clo 116 [AV.rp [iv 0],AV.rp [iv ((↑((Twn.rooms t).length):Int) - 1)]]] k AV.any) (i10.getD k undef))->fnokOf Try.prog 0 (fun (m:Int)=>[iv m]) (fun (m:Int)=>bv !within m 0 ((↑((Twn.rooms t).length):Int) - 1)) (Env.mk i9.1 i9.2 i9.3 fun (k:Nat) (u:Value) => ∃ (i:Nat),[aInts (Twn.places t),AV.fn 0][i]? = some (AV.fn k)/\i10[i]? = some u))
 (o9:q31 t ((List.any (Twn.places t) fun (n:Int) => !within n 0 ((↑((Twn.rooms t).length):Int) - 1))=false))
 (o10:q31 t ((!decide ((↑((Twn.carry t).length):Int)=(↑((Hs.things (Twn.house t)).length):Int)))=false))
 (o11:q31 t ((Twn.carry t).length<=1125899906842624))
 (o12:∀ (E0:Env),okTwn t=true -> ∀ (i15:Env) (i16:List Value),Env.le E0 i15->i16.length=2->(∀ (k:Nat),Rel i15 true (List.getD [aInts (Twn.carry t),AV.clo 116 [AV.rp [iv 0],AV.rp [iv 99]]] k AV.any) (i16.getD k undef))->fnokOf Try.prog 0 (fun (m:Int)=>[iv m]) (fun (m:Int)=>bv !within m 0 99) (Env.mk i15.1 i15.2 i15.3 fun (k:Nat) (u:Value) => ∃ (i:Nat),[aInts (Twn.carry t),AV.fn 0][i]? = some (AV.fn k)/\i16[i]? = some u))
 (o13:q31 t ((List.any (Twn.carry t) fun (n:Int) => !within n 0 99)=false))
 (o14:q31 t ((!within (Twn.minute t) 0 99)=false))
 (o15:q31 t ((!roomyT t (Twn.places t))=false)) :
  Triple Try.prog 83 (s83 t):=by
 refine triple_of Try.func83 rfl Try.call83 T0_ok _ rfl rfl rfl rfl (Nat.le_of_ble_eq_true (by kernel_rfl)) (fun _ _ _ _ h=>h) ?_
 intro hpre C hC _ hE
 obtain ⟨P,w0,E0,av,hA,ro,df⟩:=C
 obtain ⟨rfl,rfl,rfl⟩:=hC
 refine swp_seq ?_
 refine zR [1] [0] (Ak 2 tv) ?_
 refine swp_seq ?_
 refine zR [1,3] [0] (Ak 5 tv) ?_
 refine swp_seq ?_
 refine zR [1,3,4] [0] (Ak 1 tv) ?_
 refine swp_seq ?_
 refine swp_block ?_
 refine swp_seq ?_
 refine swp_seq ?_
 refine zC ([(2,CallSpec.eq (s78 (Twn.house t)) [true])]) [1,3,4,9] [0] (Ak 2 (An (An (An (zr (AV.agg (cHs (Twn.house t)))) tv) (An (t78 (Twn.house t)) (An (o0 hpre) (Ak 1 (fun (i0:Env)=>tv))))) (Ak 2 tv))) ?_
 refine zf ?_
 refine swp_seq ?_
 refine zC ([(3,CallSpec.eq (s85 (↑((Twn.rooms t).length):Int) 1 3) [true,true,true])]) [1,3,4,9] [0] (Ak 3 (An (An (An (zr (iv (↑((Twn.rooms t).length):Int))) (An (zr (iv 1)) (An (zr (iv 3)) tv))) (An (t85 ((↑((Twn.rooms t).length):Int)) (1) (3)) (Ak 2 (fun (i1:Env)=>tv)))) (Ak 2 tv))) ?_
 refine zI (!within (↑((Twn.rooms t).length):Int) 1 3) (fun h=>by cases (h.symm.trans (o1 hpre))) (fun _ => ?_)
 refine zC ([(3,CallSpec.eq (s115 0 9) [true,true]),(4,CallSpec.eq (c83a t) [true,false])]) [1,3,4,9] [0] (Ak 3 (An (An (An (zr (iv 0)) (An (zr (iv 9)) tv)) (An (t115 (0) (9)) (Ak 2 (fun (i2:Env)=>tv)))) (An (An (An (zr (aInts (Twn.rooms t))) (Ak 1 tv)) (An (t117 (Twn.rooms t) (fun (n:Int) => !within n 0 9)) (An (o2 hpre) (Ak 1 (fun (i3:Env)=>(fun (i4:List Value)=>(fun (y5:Env.le E0 i3)=>(fun (y6:i4.length=2)=>(fun (y7:∀ (k:Nat),Rel i3 true (List.getD [aInts (Twn.rooms t),AV.clo 116 [AV.rp [iv 0],AV.rp [iv 9]]] k AV.any) (i4.getD k undef))=>(o3 E0 hpre i3 i4 y5 y6 y7)))))))))) (Ak 1 tv)))) ?_
 refine zI (List.any (Twn.rooms t) fun (n:Int) => !within n 0 9) (fun h=>by cases (h.symm.trans (o4 hpre))) (fun _ => ?_)
 refine swp_seq ?_
 refine swp_seq ?_
 refine zR [1,3,4,24] [0] (Ak 6 tv) ?_
 refine zI (!decide ((↑((Twn.places t).length):Int)=(↑((Hs.things (Twn.house t)).length):Int))) (fun h=>by cases (h.symm.trans (o5 hpre))) (fun _ => ?_)
 refine swp_seq ?_
 refine zC ([(7,CallSpec.eq (s115 0 ((↑((Twn.rooms t).length):Int) - 1)) [true,true]),(8,CallSpec.eq (c83b t) [true,false])]) [1,3,4,24] [0] (Ak 6 (An (o6 hpre) (An (An (An (zr (iv 0)) (An (zr (iv ((↑((Twn.rooms t).length):Int) - 1))) tv)) (An (t115 (0) ((↑((Twn.rooms t).length):Int) - 1)) (Ak 2 (fun (i8:Env)=>tv)))) (An (An (An (zr (aInts (Twn.places t))) (Ak 1 tv)) (An (t117 (Twn.places t) (fun (n:Int) => !within n 0 ((↑((Twn.rooms t).length):Int) - 1))) (An (o7 hpre) (Ak 1 (fun (i9:Env)=>(fun (i10:List Value)=>(fun (y11:Env.le E0 i9)=>(fun (y12:i10.length=2)=>(fun (y13:∀ (k:Nat),Rel i9 true (List.getD [aInts (Twn.places t),AV.clo 116 [AV.rp [iv 0],AV.rp [iv ((↑((Twn.rooms t).length):Int) - 1)]]] k AV.any) (i10.getD k undef))=>(o8 E0 hpre i9 i10 y11 y12 y13)))))))))) (Ak 1 tv))))) ?_
 refine zI (List.any (Twn.places t) fun (n:Int) => !within n 0 ((↑((Twn.rooms t).length):Int) - 1)) (fun h=>by cases (h.symm.trans (o9 hpre))) (fun _ => ?_)
 refine swp_seq ?_
 refine zR [1,4,24] [0] (Ak 6 tv) ?_
 refine zI (!decide ((↑((Twn.carry t).length):Int)=(↑((Hs.things (Twn.house t)).length):Int))) (fun h=>by cases (h.symm.trans (o10 hpre))) (fun _ => ?_)
 refine zC ([(3,CallSpec.eq (s115 0 99) [true,true]),(4,CallSpec.eq (c83c t) [true,false])]) [1,24] [0] (Ak 3 (An (An (An (zr (iv 0)) (An (zr (iv 99)) tv)) (An (t115 (0) (99)) (Ak 2 (fun (i14:Env)=>tv)))) (An (An (An (zr (aInts (Twn.carry t))) (Ak 1 tv)) (An (t117 (Twn.carry t) (fun (n:Int) => !within n 0 99)) (An (o11 hpre) (Ak 1 (fun (i15:Env)=>(fun (i16:List Value)=>(fun (y17:Env.le E0 i15)=>(fun (y18:i16.length=2)=>(fun (y19:∀ (k:Nat),Rel i15 true (List.getD [aInts (Twn.carry t),AV.clo 116 [AV.rp [iv 0],AV.rp [iv 99]]] k AV.any) (i16.getD k undef))=>(o12 E0 hpre i15 i16 y17 y18 y19)))))))))) (Ak 1 tv)))) ?_
 refine zI (List.any (Twn.carry t) fun (n:Int) => !within n 0 99) (fun h=>by cases (h.symm.trans (o13 hpre))) (fun _ => ?_)
 refine swp_seq ?_
 refine swp_seq ?_
 refine zC ([(2,CallSpec.eq (s85 (Twn.minute t) 0 99) [true,true,true])]) [1,49] [0] (Ak 2 (An (An (An (zr (iv (Twn.minute t))) (An (zr (iv 0)) (An (zr (iv 99)) tv))) (An (t85 (Twn.minute t) (0) (99)) (Ak 2 (fun (i20:Env)=>tv)))) (Ak 2 tv))) ?_
 refine zI (!within (Twn.minute t) 0 99) (fun h=>by cases (h.symm.trans (o14 hpre))) (fun _ => ?_)
 refine zC ([(3,CallSpec.eq (s118 t) [true,true])]) [49] [] (Ak 3 (An (An (An (zr (AV.agg (cTwn t))) (An (zr (aInts (Twn.places t))) tv)) (An (t118 (t)) (An hpre (Ak 1 (fun (i21:Env)=>tv))))) (Ak 2 tv))) ?_
 refine zI (!roomyT t (Twn.places t)) (fun h=>by cases (h.symm.trans (o15 hpre))) (fun _ => ?_)
 refine swp_skip ?_
 refine swp_seq ?_
 refine zR [2] [] (Ak 1 tv) ?_
 refine swp_ret ?_
 exact zT [] (An (Ak 1 tv) (An (An (zr (iv 0)) (zr nilN)) (An (zr true) (An (zr true) (zr true)))))
theorem t83 (t:Twn):Triple Try.prog 83 (s83 t):=by
 apply w83
 all_goals (try delta q31)
 case o3 =>
  intro E0 hok E us le hlen hr
  refine fnok_arg (vals:=[aInts t.rooms,.clo 116 [.rp [iv 0],.rp [iv (9)]]]) 1 (fun j' h => ?_) (fun E u hu m=>fnok_clo (caps:=[.rp [iv 0],.rp [iv (9)]]) (s116 m 0 (9)) (t116 m 0 (9)) rfl trivial (fun _=>trivial) rfl rfl rfl rfl rfl hu) E us le hlen hr
  match j',h with
  | 0,h=>cases h
  | 1,_=>rfl
  | n + 2,h=>simp at h
 case o8 =>
  intro E0 hok E us le hlen hr
  refine fnok_arg (vals:=[aInts t.places,.clo 116 [.rp [iv 0],.rp [iv ((t.rooms.length:Int) - 1)]]]) 1 (fun j' h => ?_) (fun E u hu m=>fnok_clo (caps:=[.rp [iv 0],.rp [iv ((t.rooms.length:Int) - 1)]]) (s116 m 0 ((t.rooms.length:Int) - 1)) (t116 m 0 ((t.rooms.length:Int) - 1)) rfl trivial (fun _=>trivial) rfl rfl rfl rfl rfl hu) E us le hlen hr
  match j',h with
  | 0,h=>cases h
  | 1,_=>rfl
  | n + 2,h=>simp at h
 case o12 =>
  intro E0 hok E us le hlen hr
  refine fnok_arg (vals:=[aInts t.carry,.clo 116 [.rp [iv 0],.rp [iv (99)]]]) 1 (fun j' h => ?_) (fun E u hu m=>fnok_clo (caps:=[.rp [iv 0],.rp [iv (99)]]) (s116 m 0 (99)) (t116 m 0 (99)) rfl trivial (fun _=>trivial) rfl rfl rfl rfl rfl hu) E us le hlen hr
  match j',h with
  | 0,h=>cases h
  | 1,_=>rfl
  | n + 2,h=>simp at h
 all_goals (intro hok; obtain ⟨hH,hr,hpl,hca,hmi,hP,hR,hro⟩:=okTwn_iff.1 hok; obtain ⟨l1,l2,hT,hM⟩:=okH_iff.1 hH)
 case o0=>exact hH
 case o1=>rw [Go.Sh.within_iff.2 (by omega)]; rfl
 case o4=>refine Go.Ab.any_idx t.rooms 0 _ (fun j hj => ?_); rw [show within (t.rooms.getD j 0) 0 9=true from hR j hj]; rfl
 case o5=>rw [decide_eq_true (by omega)]; rfl
 case o6=>constructor <;> omega
 case o9=>refine Go.Ab.any_idx t.places 0 _ (fun j hj => ?_); rw [Go.Sh.within_iff.2 (by have:=(okPl_iff.1 (hP j hj)).1; omega)]; rfl
 case o10=>rw [decide_eq_true (by omega)]; rfl
 case o13=>refine Go.Ab.any_idx t.carry 0 _ (fun j hj => ?_); rw [Go.Sh.within_iff.2 (okPl_iff.1 (hP j (by omega))).2]; rfl
 case o14=>rw [Go.Sh.within_iff.2 hmi]; rfl
 case o15=>rw [hro]; rfl
 all_goals omega
abbrev q32 (t:Twn) (is:Bool) (Pq:Prop):Prop:=okTwn t=true/\is=true->Pq
abbrev q33 (t:Twn) (x1:Nat) (Pq:Prop):Prop:=x1<=(Hs.things (Twn.house t)).length->Pq
abbrev q34 (t:Twn) (x1:Nat) (Pq:Prop):Prop:=q33 t x1 (decide ((x1:Int) < (↑((Hs.things (Twn.house t)).length):Int))=true->Pq)
abbrev q35 (t:Twn) (x1:Nat) (Pq:Prop):Prop:=q34 t x1 ((!decide (Thg.off (thg (Twn.house t) x1) = -1))=true->Pq)
abbrev q36 (t:Twn) (x1:Nat) (Pq:Prop):Prop:=q35 t x1 (decide (Thg.at_ (thg (Twn.house t) x1)<=Twn.minute t)=true->Pq)
abbrev q37 (x15:Nat) (Pq:Prop):Prop:=x15<=3->Pq
abbrev q38 (x15:Nat) (Pq:Prop):Prop:=q37 x15 (decide ((x15:Int) < 3)=true->Pq)
abbrev q39 (t:Twn) (x1:Nat) (x15:Nat) (Pq:Prop):Prop:=q38 x15 (hasH (Twn.house t) (x1:Int) (x15:Int) (Twn.minute t)=true->Pq)
abbrev q3a (t:Twn) (x1:Nat) (x15:Nat) (Pq:Prop):Prop:=q38 x15 (hasH (Twn.house t) (x1:Int) (x15:Int) (Twn.minute t)=false->Pq)
abbrev q3b (x15:Nat) (Pq:Prop):Prop:=q37 x15 (decide ((x15:Int) < 3)=false->Pq)
abbrev q3c (t:Twn) (x1:Nat) (Pq:Prop):Prop:=q35 t x1 (decide (Thg.at_ (thg (Twn.house t) x1)<=Twn.minute t)=false->Pq)
abbrev q3d (t:Twn) (x1:Nat) (Pq:Prop):Prop:=q34 t x1 ((!decide (Thg.off (thg (Twn.house t) x1) = -1))=false->Pq)
abbrev q3e (t:Twn) (x1:Nat) (Pq:Prop):Prop:=q3d t x1 (decide (Thg.at_ (thg (Twn.house t) x1)<=Twn.minute t)=true->Pq)
abbrev q3f (x74:Nat) (Pq:Prop):Prop:=x74<=3->Pq
abbrev q3g (x74:Nat) (Pq:Prop):Prop:=q3f x74 (decide ((x74:Int) < 3)=true->Pq)
abbrev q3h (t:Twn) (x1:Nat) (x74:Nat) (Pq:Prop):Prop:=q3g x74 (hasH (Twn.house t) (x1:Int) (x74:Int) (Twn.minute t)=true->Pq)
abbrev q3i (t:Twn) (x1:Nat) (x74:Nat) (Pq:Prop):Prop:=q3g x74 (hasH (Twn.house t) (x1:Int) (x74:Int) (Twn.minute t)=false->Pq)
abbrev q3j (x74:Nat) (Pq:Prop):Prop:=q3f x74 (decide ((x74:Int) < 3)=false->Pq)
abbrev q3k (t:Twn) (x1:Nat) (Pq:Prop):Prop:=q3d t x1 (decide (Thg.at_ (thg (Twn.house t) x1)<=Twn.minute t)=false->Pq)
theorem w47 (t:Twn) (is:Bool)
 (o0:q32 t is ((!is)=false))
 (o1:q32 t is (0=(↑0:Int)))
 (o2:q32 t is ([]=esT t 0))
 (o3:q32 t is (0<=(Hs.things (Twn.house t)).length))
 (o4:q32 t is (∀ (x1:Nat),q34 t x1 (0<=(x1:Int))))
 (o5:q32 t is (∀ (x1:Nat),q34 t x1 ((x1:Int) < (↑((Hs.things (Twn.house t)).length):Int))))
 (o6:q32 t is (∀ (x1:Nat),q35 t x1 (0<=Thg.off (thg (Twn.house t) x1))))
 (o7:q32 t is (∀ (x1:Nat),q35 t x1 (Thg.off (thg (Twn.house t) x1) < (x1:Int))))
 (o8:q32 t is (∀ (x1:Nat),q35 t x1 ((Thg.off (thg (Twn.house t) x1)).toNat < x1)))
 (o9:q32 t is (∀ (x1:Nat),q36 t x1 (0=(↑0:Int))))
 (o10:q32 t is (∀ (x1:Nat),q36 t x1 ((↑(pgN (Twn.house t) (Thg.off (thg (Twn.house t) x1)).toNat):Int)=(↑(pgN (Twn.house t) x1):Int))))
 (o11:q32 t is (∀ (x1:Nat),q36 t x1 (AV.lit (Value.int IntKind.u64 0)=uv (setTo t x1 0))))
 (o12:q32 t is (∀ (x1:Nat),q36 t x1 (0<=3)))
 (o13:q32 t is (∀ (x1:Nat),q36 t x1 (∀ (x15:Nat),q38 x15 (okH (Twn.house t)=true))))
 (o14:q32 t is (∀ (x1:Nat),q36 t x1 (∀ (x15:Nat),q38 x15 (isThing (Twn.house t) (x1:Int)=true))))
 (o15:q32 t is (∀ (x1:Nat),q36 t x1 (∀ (x15:Nat),q38 x15 (within (x15:Int) 0 2=true))))
 (o16:q32 t is (∀ (x1:Nat),q36 t x1 (∀ (x15:Nat),q38 x15 (within (Twn.minute t) 0 99=true))))
 (o17:q32 t is (∀ (x1:Nat),q36 t x1 (∀ (x15:Nat),q39 t x1 x15 (0<=(x15:Int)))))
 (o18:q32 t is (∀ (x1:Nat),q36 t x1 (∀ (x15:Nat),q39 t x1 x15 ((x15:Int)<=62))))
 (o19:q32 t is (∀ (x1:Nat),q36 t x1 (∀ (x15:Nat),q39 t x1 x15 (inU (1 * 2 ^ x15)))))
 (o20:q32 t is (∀ (x1:Nat),q36 t x1 (∀ (x15:Nat),q39 t x1 x15 (inO (setTo t x1 x15)))))
 (o21:q32 t is (∀ (x1:Nat),q36 t x1 (∀ (x15:Nat),q39 t x1 x15 (inO (1 * 2 ^ x15)))))
 (o22:q32 t is (∀ (x1:Nat),q36 t x1 (∀ (x15:Nat),q39 t x1 x15 (inI ((x15:Int) + 1)))))
 (o23:q32 t is (∀ (x1:Nat),q36 t x1 (∀ (x15:Nat),q39 t x1 x15 ((x15:Int) + 1=(↑(x15 + 1):Int)))))
 (o24:q32 t is (∀ (x1:Nat),q36 t x1 (∀ (x15:Nat),q39 t x1 x15 (AV.lit (Value.int IntKind.u64 (lorI (setTo t x1 x15) (1 * 2 ^ x15)))=uv (setTo t x1 (x15 + 1))))))
 (o25:q32 t is (∀ (x1:Nat),q36 t x1 (∀ (x15:Nat),q39 t x1 x15 (x15 + 1<=3))))
 (o26:q32 t is (∀ (x1:Nat),q36 t x1 (∀ (x15:Nat),q39 t x1 x15 (3 - (x15 + 1) < 3 - x15))))
 (o27:q32 t is (∀ (x1:Nat),q36 t x1 (∀ (x15:Nat),q3a t x1 x15 (inI ((x15:Int) + 1)))))
 (o28:q32 t is (∀ (x1:Nat),q36 t x1 (∀ (x15:Nat),q3a t x1 x15 ((x15:Int) + 1=(↑(x15 + 1):Int)))))
 (o29:q32 t is (∀ (x1:Nat),q36 t x1 (∀ (x15:Nat),q3a t x1 x15 (uv (setTo t x1 x15)=uv (setTo t x1 (x15 + 1))))))
 (o30:q32 t is (∀ (x1:Nat),q36 t x1 (∀ (x15:Nat),q3a t x1 x15 (x15 + 1<=3))))
 (o31:q32 t is (∀ (x1:Nat),q36 t x1 (∀ (x15:Nat),q3a t x1 x15 (3 - (x15 + 1) < 3 - x15))))
 (o32:q32 t is (∀ (x1:Nat),q36 t x1 (∀ (x15:Nat),q3b x15 (inI (↑(pgN (Twn.house t) x1):Int)))))
 (o33:q32 t is (∀ (x1:Nat),q36 t x1 (∀ (x15:Nat),q3b x15 (inO (mlook (esT t x1) (↑(pgN (Twn.house t) x1):Int))))))
 (o34:q32 t is (∀ (x1:Nat),q36 t x1 (∀ (x15:Nat),q3b x15 (inO (setTo t x1 x15)))))
 (o35:q32 t is (∀ (x1:Nat),q36 t x1 (∀ (x15:Nat),q3b x15 (inI (↑(pgN (Twn.house t) x1):Int)))))
 (o36:q32 t is (∀ (x1:Nat),q36 t x1 (∀ (x15:Nat),q3b x15 (0<=lorI (mlook (esT t x1) (↑(pgN (Twn.house t) x1):Int)) (setTo t x1 x15)))))
 (o37:q32 t is (∀ (x1:Nat),q36 t x1 (∀ (x15:Nat),q3b x15 (lorI (mlook (esT t x1) (↑(pgN (Twn.house t) x1):Int)) (setTo t x1 x15)<=9223372036854775807))))
 (o38:q32 t is (∀ (x1:Nat),q36 t x1 (∀ (x15:Nat),q3b x15 ((esT t x1).length < 65536))))
 (o39:q32 t is (∀ (x1:Nat),q36 t x1 (∀ (x15:Nat),q3b x15 (x1 + 1<=65536))))
 (o40:q32 t is (∀ (x1:Nat),q36 t x1 (∀ (x15:Nat),q3b x15 (inI ((x1:Int) + 1)))))
 (o41:q32 t is (∀ (x1:Nat),q36 t x1 (∀ (x15:Nat),q3b x15 ((x1:Int) + 1=(↑(x1 + 1):Int)))))
 (o42:q32 t is (∀ (x1:Nat),q36 t x1 (∀ (x15:Nat),q3b x15 (∀ (i59:Nat),i59 < x1 + 1->catF x1 (fun (k:Nat)=>cKnd t k) (fun (j:Nat)=>List.getD [[iv (↑(pgN (Twn.house t) x1):Int),iv 1,AV.lit (Value.int IntKind.u64 (setTo t x1 x15))]] j (TI.za ti144)) i59=cKnd t i59))))
 (o43:q32 t is (∀ (x1:Nat),q36 t x1 (∀ (x15:Nat),q3b x15 (esT t x1 ++ [((↑(pgN (Twn.house t) x1):Int),lorI (mlook (esT t x1) (↑(pgN (Twn.house t) x1):Int)) (setTo t x1 x15))]=esT t (x1 + 1)))))
 (o44:q32 t is (∀ (x1:Nat),q36 t x1 (∀ (x15:Nat),q3b x15 (x1 + 1<=(Hs.things (Twn.house t)).length))))
 (o45:q32 t is (∀ (x1:Nat),q36 t x1 (∀ (x15:Nat),q3b x15 ((Hs.things (Twn.house t)).length - (x1 + 1) < (Hs.things (Twn.house t)).length - x1))))
 (o46:q32 t is (∀ (x1:Nat),q3c t x1 (x1 + 1<=65536)))
 (o47:q32 t is (∀ (x1:Nat),q3c t x1 (inI ((x1:Int) + 1))))
 (o48:q32 t is (∀ (x1:Nat),q3c t x1 ((x1:Int) + 1=(↑(x1 + 1):Int))))
 (o49:q32 t is (∀ (x1:Nat),q3c t x1 (∀ (i71:Nat),i71 < x1 + 1->catF x1 (fun (k:Nat)=>cKnd t k) (fun (j:Nat)=>List.getD [[iv (↑(pgN (Twn.house t) (Thg.off (thg (Twn.house t) x1)).toNat):Int),iv 0,AV.lit (Value.int IntKind.u64 0)]] j (TI.za ti144)) i71=cKnd t i71)))
 (o50:q32 t is (∀ (x1:Nat),q3c t x1 (esT t x1=esT t (x1 + 1))))
 (o51:q32 t is (∀ (x1:Nat),q3c t x1 (x1 + 1<=(Hs.things (Twn.house t)).length)))
 (o52:q32 t is (∀ (x1:Nat),q3c t x1 ((Hs.things (Twn.house t)).length - (x1 + 1) < (Hs.things (Twn.house t)).length - x1)))
 (o53:q32 t is (∀ (x1:Nat),q3e t x1 (0=(↑0:Int))))
 (o54:q32 t is (∀ (x1:Nat),q3e t x1 ((x1:Int)=(↑(pgN (Twn.house t) x1):Int))))
 (o55:q32 t is (∀ (x1:Nat),q3e t x1 (AV.lit (Value.int IntKind.u64 0)=uv (setTo t x1 0))))
 (o56:q32 t is (∀ (x1:Nat),q3e t x1 (0<=3)))
 (o57:q32 t is (∀ (x1:Nat),q3e t x1 (∀ (x74:Nat),q3g x74 (okH (Twn.house t)=true))))
 (o58:q32 t is (∀ (x1:Nat),q3e t x1 (∀ (x74:Nat),q3g x74 (isThing (Twn.house t) (x1:Int)=true))))
 (o59:q32 t is (∀ (x1:Nat),q3e t x1 (∀ (x74:Nat),q3g x74 (within (x74:Int) 0 2=true))))
 (o60:q32 t is (∀ (x1:Nat),q3e t x1 (∀ (x74:Nat),q3g x74 (within (Twn.minute t) 0 99=true))))
 (o61:q32 t is (∀ (x1:Nat),q3e t x1 (∀ (x74:Nat),q3h t x1 x74 (0<=(x74:Int)))))
 (o62:q32 t is (∀ (x1:Nat),q3e t x1 (∀ (x74:Nat),q3h t x1 x74 ((x74:Int)<=62))))
 (o63:q32 t is (∀ (x1:Nat),q3e t x1 (∀ (x74:Nat),q3h t x1 x74 (inU (1 * 2 ^ x74)))))
 (o64:q32 t is (∀ (x1:Nat),q3e t x1 (∀ (x74:Nat),q3h t x1 x74 (inO (setTo t x1 x74)))))
 (o65:q32 t is (∀ (x1:Nat),q3e t x1 (∀ (x74:Nat),q3h t x1 x74 (inO (1 * 2 ^ x74)))))
 (o66:q32 t is (∀ (x1:Nat),q3e t x1 (∀ (x74:Nat),q3h t x1 x74 (inI ((x74:Int) + 1)))))
 (o67:q32 t is (∀ (x1:Nat),q3e t x1 (∀ (x74:Nat),q3h t x1 x74 ((x74:Int) + 1=(↑(x74 + 1):Int)))))
 (o68:q32 t is (∀ (x1:Nat),q3e t x1 (∀ (x74:Nat),q3h t x1 x74 (AV.lit (Value.int IntKind.u64 (lorI (setTo t x1 x74) (1 * 2 ^ x74)))=uv (setTo t x1 (x74 + 1))))))
 (o69:q32 t is (∀ (x1:Nat),q3e t x1 (∀ (x74:Nat),q3h t x1 x74 (x74 + 1<=3))))
 (o70:q32 t is (∀ (x1:Nat),q3e t x1 (∀ (x74:Nat),q3h t x1 x74 (3 - (x74 + 1) < 3 - x74))))
 (o71:q32 t is (∀ (x1:Nat),q3e t x1 (∀ (x74:Nat),q3i t x1 x74 (inI ((x74:Int) + 1)))))
 (o72:q32 t is (∀ (x1:Nat),q3e t x1 (∀ (x74:Nat),q3i t x1 x74 ((x74:Int) + 1=(↑(x74 + 1):Int)))))
 (o73:q32 t is (∀ (x1:Nat),q3e t x1 (∀ (x74:Nat),q3i t x1 x74 (uv (setTo t x1 x74)=uv (setTo t x1 (x74 + 1))))))
 (o74:q32 t is (∀ (x1:Nat),q3e t x1 (∀ (x74:Nat),q3i t x1 x74 (x74 + 1<=3))))
 (o75:q32 t is (∀ (x1:Nat),q3e t x1 (∀ (x74:Nat),q3i t x1 x74 (3 - (x74 + 1) < 3 - x74))))
 (o76:q32 t is (∀ (x1:Nat),q3e t x1 (∀ (x74:Nat),q3j x74 (inI (↑(pgN (Twn.house t) x1):Int)))))
 (o77:q32 t is (∀ (x1:Nat),q3e t x1 (∀ (x74:Nat),q3j x74 (inO (mlook (esT t x1) (↑(pgN (Twn.house t) x1):Int))))))
 (o78:q32 t is (∀ (x1:Nat),q3e t x1 (∀ (x74:Nat),q3j x74 (inO (setTo t x1 x74)))))
 (o79:q32 t is (∀ (x1:Nat),q3e t x1 (∀ (x74:Nat),q3j x74 (inI (↑(pgN (Twn.house t) x1):Int)))))
 (o80:q32 t is (∀ (x1:Nat),q3e t x1 (∀ (x74:Nat),q3j x74 (0<=lorI (mlook (esT t x1) (↑(pgN (Twn.house t) x1):Int)) (setTo t x1 x74)))))
 (o81:q32 t is (∀ (x1:Nat),q3e t x1 (∀ (x74:Nat),q3j x74 (lorI (mlook (esT t x1) (↑(pgN (Twn.house t) x1):Int)) (setTo t x1 x74)<=9223372036854775807))))
 (o82:q32 t is (∀ (x1:Nat),q3e t x1 (∀ (x74:Nat),q3j x74 ((esT t x1).length < 65536))))
 (o83:q32 t is (∀ (x1:Nat),q3e t x1 (∀ (x74:Nat),q3j x74 (x1 + 1<=65536))))
 (o84:q32 t is (∀ (x1:Nat),q3e t x1 (∀ (x74:Nat),q3j x74 (inI ((x1:Int) + 1)))))
 (o85:q32 t is (∀ (x1:Nat),q3e t x1 (∀ (x74:Nat),q3j x74 ((x1:Int) + 1=(↑(x1 + 1):Int)))))
 (o86:q32 t is (∀ (x1:Nat),q3e t x1 (∀ (x74:Nat),q3j x74 (∀ (i118:Nat),i118 < x1 + 1->catF x1 (fun (k:Nat)=>cKnd t k) (fun (j:Nat)=>List.getD [[iv (↑(pgN (Twn.house t) x1):Int),iv 1,AV.lit (Value.int IntKind.u64 (setTo t x1 x74))]] j (TI.za ti144)) i118=cKnd t i118))))
 (o87:q32 t is (∀ (x1:Nat),q3e t x1 (∀ (x74:Nat),q3j x74 (esT t x1 ++ [((↑(pgN (Twn.house t) x1):Int),lorI (mlook (esT t x1) (↑(pgN (Twn.house t) x1):Int)) (setTo t x1 x74))]=esT t (x1 + 1)))))
 (o88:q32 t is (∀ (x1:Nat),q3e t x1 (∀ (x74:Nat),q3j x74 (x1 + 1<=(Hs.things (Twn.house t)).length))))
 (o89:q32 t is (∀ (x1:Nat),q3e t x1 (∀ (x74:Nat),q3j x74 ((Hs.things (Twn.house t)).length - (x1 + 1) < (Hs.things (Twn.house t)).length - x1))))
 (o90:q32 t is (∀ (x1:Nat),q3k t x1 (x1 + 1<=65536)))
 (o91:q32 t is (∀ (x1:Nat),q3k t x1 (inI ((x1:Int) + 1))))
 (o92:q32 t is (∀ (x1:Nat),q3k t x1 ((x1:Int) + 1=(↑(x1 + 1):Int))))
 (o93:q32 t is (∀ (x1:Nat),q3k t x1 (∀ (i130:Nat),i130 < x1 + 1->catF x1 (fun (k:Nat)=>cKnd t k) (fun (j:Nat)=>List.getD [[iv (x1:Int),iv 0,AV.lit (Value.int IntKind.u64 0)]] j (TI.za ti144)) i130=cKnd t i130)))
 (o94:q32 t is (∀ (x1:Nat),q3k t x1 (esT t x1=esT t (x1 + 1))))
 (o95:q32 t is (∀ (x1:Nat),q3k t x1 (x1 + 1<=(Hs.things (Twn.house t)).length)))
 (o96:q32 t is (∀ (x1:Nat),q3k t x1 ((Hs.things (Twn.house t)).length - (x1 + 1) < (Hs.things (Twn.house t)).length - x1)))
 (o97:q32 t is (∀ (x1:Nat),q33 t x1 (decide ((x1:Int) < (↑((Hs.things (Twn.house t)).length):Int))=false->AV.rp [AV.sl 4 (Hs.things (Twn.house t)).length fun (i:Nat)=>cThg (thg (Twn.house t) i),AV.sl 3 (Hs.marks (Twn.house t)).length fun (i:Nat)=>cMrk ((Hs.marks (Twn.house t)).getD i default),AV.sl 1 (Twn.places t).length fun (i:Nat)=>[iv ((Twn.places t).getD i 0)],AV.sl 1 (Twn.carry t).length fun (i:Nat)=>[iv ((Twn.carry t).getD i 0)],AV.sl 1 (Twn.rooms t).length fun (i:Nat)=>[iv ((Twn.rooms t).getD i 0)],iv (Twn.minute t),AV.sl 3 x1 fun (k:Nat)=>cKnd t k,AV.mz Try.prog 3 142 IntKind.u64 (esT t x1)]=AV.rp (cKn t)))) :
  Triple Try.prog 47 (s47 t is):=by
 refine triple_of Try.func47 rfl Try.call47 T0_ok _ rfl rfl rfl rfl (Nat.le_of_ble_eq_true (by kernel_rfl)) (fun _ _ _ _ h=>h) ?_
 intro hpre C hC _ hE
 obtain ⟨P,w0,E0,av,hA,ro,df⟩:=C
 obtain ⟨rfl,rfl,rfl⟩:=hC
 refine swp_seq ?_
 refine zR [1,2] [0] (Ak 3 tv) ?_
 refine swp_seq ?_
 refine swp_seq ?_
 refine zC ([(1,CallSpec.eq (s83 t) [true])]) [1,2,6] [0] (Ak 1 (An (An (An (zr (AV.agg (cTwn t))) tv) (An (t83 (t)) (An hpre.1 (Ak 1 (fun (i0:Env)=>tv))))) (Ak 1 tv))) ?_
 refine swp_seq ?_
 refine zR [1,2,6,17] [0] (Ak 2 tv) ?_
 refine zf ?_
 refine swp_skip ?_
 refine swp_seq ?_
 refine swp_seq ?_
 refine zR [2,20] [0] (Ak 2 tv) ?_
 refine zI (!is) (fun h=>by cases (h.symm.trans (o0 hpre))) (fun _ => ?_)
 refine swp_skip ?_
 refine swp_seq ?_
 refine zR [2,7] [0,104,88] (Ak 5 tv) ?_
 refine swp_seq ?_
 refine swp_seq ?_
 refine zR [2,7,27,28,29] [0,104,88] (Ak 5 tv) ?_
 refine swp_block ?_
 refine zL (Hint.ann (h47a t is) [(2,AV.ptr 0 []),(27,AV.sl 4 (Hs.things (Twn.house t)).length fun (i:Nat)=>cThg (thg (Twn.house t) i)),(28,iv (↑((Hs.things (Twn.house t)).length):Int))] [(0,OB.cells 28 (cTwn t))] 10160) (zE hE [] [(0,.same 0),(5000,.same 104),(5001,.nil),(5002,.same 88)] [27,28] [0] (An (An (An (zr (some (Src.same 0))) (zr nilP)) (An (An (zr (AV.sl 4 (Hs.things (Twn.house t)).length fun (i:Nat)=>cThg (thg (Twn.house t) i))) (zr true)) (An (An (zr (iv (↑((Hs.things (Twn.house t)).length):Int))) (zr true)) (An (An (ci (o1 hpre)) (zr nilN)) (An (An (zr (some (Src.same 104))) (zr nilP)) tv))))) (An (An (An (zr (OB.cells 28 (cTwn t))) (zr true)) (An (An (zr 140) (An (An (An (zr 4) (An (zr (Hs.things (Twn.house t)).length) (fun (i2:Nat)=>(fun (y3:i2 < (Hs.things (Twn.house t)).length)=>(zr (cThg (thg (Twn.house t) i2))))))) (An (An (zr 3) (An (zr (Hs.marks (Twn.house t)).length) (fun (i4:Nat)=>(fun (y5:i4 < (Hs.marks (Twn.house t)).length)=>(zr (cMrk ((Hs.marks (Twn.house t)).getD i4 default))))))) (An (An (zr 1) (An (zr (Twn.places t).length) (fun (i6:Nat)=>(fun (y7:i6 < (Twn.places t).length)=>(zr ([iv ((Twn.places t).getD i6 0)])))))) (An (An (zr 1) (An (zr (Twn.carry t).length) (fun (i8:Nat)=>(fun (y9:i8 < (Twn.carry t).length)=>(zr ([iv ((Twn.carry t).getD i8 0)])))))) (An (An (zr 1) (An (zr (Twn.rooms t).length) (fun (i10:Nat)=>(fun (y11:i10 < (Twn.rooms t).length)=>(zr ([iv ((Twn.rooms t).getD i10 0)])))))) (An (An (zr (iv (Twn.minute t))) (zr nilN)) (An (zr (some Src.nil)) (An (zr (some (Src.same 88))) tv)))))))) (zr true))) (An (zr 0) (An (An (zr 137) (An (zr IntKind.u64) (o2 hpre))) tv)))) (An (zr true) (zr true))))) (o3 hpre) (fun (x1:Nat) hx1 => ?_)
 refine swp_seq ?_
 refine zR [2,27,28,29,7,30] [0,5000,5001,5002] (Ak 1 tv) ?_
 refine swp_seq ?_
 refine zI (decide ((x1:Int) < (↑((Hs.things (Twn.house t)).length):Int))) (fun y12 => ?_) (fun y12 => ?_)
 ·refine swp_skip ?_
  refine swp_seq ?_
  refine swp_block ?_
  refine swp_seq ?_
  refine zR [2,27,28,29,7,9,8] [0,5000,10192,5001,5002] (Ak 1 (An (An (o4 hpre x1 hx1 y12) (o5 hpre x1 hx1 y12)) (Ak 4 tv))) ?_
  refine swp_seq ?_
  refine zR [2,27,28,29,7,9,8,10] [0,5000,10192,10232,5001,5002] (Ak 4 tv) ?_
  refine swp_seq ?_
  refine swp_seq ?_
  refine zR [2,27,28,29,7,9,8,10,38] [0,5000,10192,10232,5001,5002] (Ak 3 tv) ?_
  refine zI (!decide (Thg.off (thg (Twn.house t) x1) = -1)) (fun y13 => ?_) (fun y13 => ?_)
  ·refine zR [2,27,28,29,7,9,8,10] [0,5000,10192,10232,5001,5002] (Ak 6 (An (An (o6 hpre x1 hx1 y12 y13) (o7 hpre x1 hx1 y12 y13)) (Ak 1 (An (An (o8 hpre x1 hx1 y12 y13) tv) (Ak 2 tv))))) ?_
   refine swp_seq ?_
   refine swp_seq ?_
   refine zR [2,27,28,29,7,8,10,53] [0,5000,10232,5001,5002] (Ak 5 tv) ?_
   refine zI (decide (Thg.at_ (thg (Twn.house t) x1)<=Twn.minute t)) (fun y14 => ?_) (fun y14 => ?_)
   ·refine swp_seq ?_
    refine zR [2,27,28,29,7,8,10] [0,5000,10232,5001,5002] (Ak 2 tv) ?_
    refine swp_seq ?_
    refine swp_seq ?_
    refine zR [2,27,28,29,7,8,10,55] [0,5000,10232,5001,5002] (Ak 1 tv) ?_
    refine swp_block ?_
    refine zL (Hint.ann (h47b t is x1) [(2,AV.ptr 0 []),(27,AV.sl 4 (Hs.things (Twn.house t)).length fun (i:Nat)=>cThg (thg (Twn.house t) i)),(28,iv (↑((Hs.things (Twn.house t)).length):Int)),(29,iv (x1:Int)),(7,AV.ptr 5000 []),(8,iv (x1:Int))] [(0,OB.cells 28 (cTwn t)),(5000,OB.cells 140 [AV.sl 4 (Hs.things (Twn.house t)).length fun (i:Nat)=>cThg (thg (Twn.house t) i),aMrks (Hs.marks (Twn.house t)),aInts (Twn.places t),aInts (Twn.carry t),aInts (Twn.rooms t),iv (Twn.minute t),AV.vec 5001,AV.vec 5002]),(5001,OB.vec 144 3 x1 fun (k:Nat)=>cKnd t k),(5002,OB.mp 137 IntKind.u64 (esT t x1))] 20424) (zE hE [] [(0,.same 0),(5000,.same 5000),(5001,.same 5001),(5002,.same 5002),(5010,.same 10232)] [27,28,29,8] [0,5001,5002] (An (An (An (zr (some (Src.same 0))) (zr nilP)) (An (An (zr (AV.sl 4 (Hs.things (Twn.house t)).length fun (i:Nat)=>cThg (thg (Twn.house t) i))) (zr true)) (An (An (zr (iv (↑((Hs.things (Twn.house t)).length):Int))) (zr true)) (An (An (zr (iv (x1:Int))) (zr true)) (An (An (zr (some (Src.same 5000))) (zr nilP)) (An (An (zr (iv (x1:Int))) (zr true)) (An (An (ci (o9 hpre x1 hx1 y12 y13 y14)) (zr nilN)) (An (An (zr (some (Src.same 10232))) (zr nilP)) tv)))))))) (An (An (An (zr (OB.cells 28 (cTwn t))) (zr true)) (An (An (zr 140) (An (An (An (zr 4) (An (zr (Hs.things (Twn.house t)).length) (fun (i16:Nat)=>(fun (y17:i16 < (Hs.things (Twn.house t)).length)=>(zr (cThg (thg (Twn.house t) i16))))))) (An (An (zr 3) (An (zr (Hs.marks (Twn.house t)).length) (fun (i18:Nat)=>(fun (y19:i18 < (Hs.marks (Twn.house t)).length)=>(zr (cMrk ((Hs.marks (Twn.house t)).getD i18 default))))))) (An (An (zr 1) (An (zr (Twn.places t).length) (fun (i20:Nat)=>(fun (y21:i20 < (Twn.places t).length)=>(zr ([iv ((Twn.places t).getD i20 0)])))))) (An (An (zr 1) (An (zr (Twn.carry t).length) (fun (i22:Nat)=>(fun (y23:i22 < (Twn.carry t).length)=>(zr ([iv ((Twn.carry t).getD i22 0)])))))) (An (An (zr 1) (An (zr (Twn.rooms t).length) (fun (i24:Nat)=>(fun (y25:i24 < (Twn.rooms t).length)=>(zr ([iv ((Twn.rooms t).getD i24 0)])))))) (An (An (zr (iv (Twn.minute t))) (zr nilN)) (An (zr (some (Src.same 5001))) (An (zr (some (Src.same 5002))) tv)))))))) (zr true))) (An (An (zr (OB.vec 144 3 x1 fun (k:Nat)=>cKnd t k)) (zr true)) (An (An (zr (OB.mp 137 IntKind.u64 (esT t x1))) (zr true)) (An (An (zr 144) (An (An (An (ci (o10 hpre x1 hx1 y12 y13 y14)) (zr nilN)) (An (An (zr (iv 1)) (zr nilN)) (An (An (o11 hpre x1 hx1 y12 y13 y14) (zr nilN)) tv))) (zr true))) tv))))) (An (zr true) (zr true))))) (o12 hpre x1 hx1 y12 y13 y14) (fun (x15:Nat) hx15 => ?_)
    refine swp_seq ?_
    refine zR [2,27,28,29,7,8,55,10,56] [0,5000,5010,5001,5002] (Ak 1 tv) ?_
    refine swp_seq ?_
    refine zI (decide ((x15:Int) < 3)) (fun y26 => ?_) (fun y26 => ?_)
    ·refine swp_skip ?_
     refine swp_seq ?_
     refine swp_block ?_
     refine swp_seq ?_
     refine zR [2,27,28,29,7,8,55,10,11] [0,5000,5010,5001,5002] (Ak 2 tv) ?_
     refine swp_seq ?_
     refine zC ([(6,CallSpec.eq (s84 (Twn.house t) (x1:Int) (x15:Int) (Twn.minute t)) [true,true,true,true])]) [2,27,28,29,7,8,55,10,11,12] [0,5000,5010,5001,5002] (Ak 6 (An (An (An (zr (AV.agg (cHs (Twn.house t)))) (An (zr (iv (x1:Int))) (An (zr (iv (x15:Int))) (An (zr (iv (Twn.minute t))) tv)))) (An (t84 (Twn.house t) ((x1:Int)) ((x15:Int)) (Twn.minute t)) (An (An (o13 hpre x1 hx1 y12 y13 y14 x15 hx15 y26) (An (o14 hpre x1 hx1 y12 y13 y14 x15 hx15 y26) (An (o15 hpre x1 hx1 y12 y13 y14 x15 hx15 y26) (o16 hpre x1 hx1 y12 y13 y14 x15 hx15 y26)))) (Ak 1 (fun (i27:Env)=>tv))))) (Ak 5 tv))) ?_
     refine swp_seq ?_
     refine zR [2,27,28,29,7,8,55,10,11,68] [0,5000,5010,5001,5002] (Ak 1 tv) ?_
     refine zI (hasH (Twn.house t) (x1:Int) (x15:Int) (Twn.minute t)) (fun y28 => ?_) (fun y28 => ?_)
     ·refine zR [2,27,28,29,7,8,55,10] [0,5000,5010,5001,5002] (Ak 3 (An (An (o17 hpre x1 hx1 y12 y13 y14 x15 hx15 y26 y28) (An (o18 hpre x1 hx1 y12 y13 y14 x15 hx15 y26 y28) (o19 hpre x1 hx1 y12 y13 y14 x15 hx15 y26 y28))) (An (An (o20 hpre x1 hx1 y12 y13 y14 x15 hx15 y26 y28) (o21 hpre x1 hx1 y12 y13 y14 x15 hx15 y26 y28)) (Ak 2 tv)))) ?_
      refine zR [2,27,28,29,7,8,55,10] [0,5000,5010,5001,5002] (An (o22 hpre x1 hx1 y12 y13 y14 x15 hx15 y26 y28) (Ak 1 tv)) ?_
      exact zn (zE hE [] [(0,.same 0),(5000,.same 5000),(5001,.same 5001),(5002,.same 5002),(5010,.same 5010)] [27,28,29,8] [0,5001,5002] (An (An (An (zr (some (Src.same 0))) (zr nilP)) (An (An (zr (AV.sl 4 (Hs.things (Twn.house t)).length fun (i:Nat)=>cThg (thg (Twn.house t) i))) (zr true)) (An (An (zr (iv (↑((Hs.things (Twn.house t)).length):Int))) (zr true)) (An (An (zr (iv (x1:Int))) (zr true)) (An (An (zr (some (Src.same 5000))) (zr nilP)) (An (An (zr (iv (x1:Int))) (zr true)) (An (An (ci (o23 hpre x1 hx1 y12 y13 y14 x15 hx15 y26 y28)) (zr nilN)) (An (An (zr (some (Src.same 5010))) (zr nilP)) tv)))))))) (An (An (An (zr (OB.cells 28 (cTwn t))) (zr true)) (An (An (zr 140) (An (An (An (zr 4) (An (zr (Hs.things (Twn.house t)).length) (fun (i29:Nat)=>(fun (y30:i29 < (Hs.things (Twn.house t)).length)=>(zr (cThg (thg (Twn.house t) i29))))))) (An (An (zr 3) (An (zr (Hs.marks (Twn.house t)).length) (fun (i31:Nat)=>(fun (y32:i31 < (Hs.marks (Twn.house t)).length)=>(zr (cMrk ((Hs.marks (Twn.house t)).getD i31 default))))))) (An (An (zr 1) (An (zr (Twn.places t).length) (fun (i33:Nat)=>(fun (y34:i33 < (Twn.places t).length)=>(zr ([iv ((Twn.places t).getD i33 0)])))))) (An (An (zr 1) (An (zr (Twn.carry t).length) (fun (i35:Nat)=>(fun (y36:i35 < (Twn.carry t).length)=>(zr ([iv ((Twn.carry t).getD i35 0)])))))) (An (An (zr 1) (An (zr (Twn.rooms t).length) (fun (i37:Nat)=>(fun (y38:i37 < (Twn.rooms t).length)=>(zr ([iv ((Twn.rooms t).getD i37 0)])))))) (An (An (zr (iv (Twn.minute t))) (zr nilN)) (An (zr (some (Src.same 5001))) (An (zr (some (Src.same 5002))) tv)))))))) (zr true))) (An (An (zr (OB.vec 144 3 x1 fun (k:Nat)=>cKnd t k)) (zr true)) (An (An (zr (OB.mp 137 IntKind.u64 (esT t x1))) (zr true)) (An (An (zr 144) (An (An (An (zr (iv (↑(pgN (Twn.house t) x1):Int))) (zr nilN)) (An (An (zr (iv 1)) (zr nilN)) (An (An (o24 hpre x1 hx1 y12 y13 y14 x15 hx15 y26 y28) (zr nilN)) tv))) (zr true))) tv))))) (An (zr true) (zr true))))) (o25 hpre x1 hx1 y12 y13 y14 x15 hx15 y26 y28) (o26 hpre x1 hx1 y12 y13 y14 x15 hx15 y26 y28)
     ·refine swp_skip ?_
      refine zR [2,27,28,29,7,8,55,10] [0,5000,5010,5001,5002] (An (o27 hpre x1 hx1 y12 y13 y14 x15 hx15 y26 y28) (Ak 1 tv)) ?_
      exact zn (zE hE [] [(0,.same 0),(5000,.same 5000),(5001,.same 5001),(5002,.same 5002),(5010,.same 5010)] [27,28,29,8] [0,5001,5002] (An (An (An (zr (some (Src.same 0))) (zr nilP)) (An (An (zr (AV.sl 4 (Hs.things (Twn.house t)).length fun (i:Nat)=>cThg (thg (Twn.house t) i))) (zr true)) (An (An (zr (iv (↑((Hs.things (Twn.house t)).length):Int))) (zr true)) (An (An (zr (iv (x1:Int))) (zr true)) (An (An (zr (some (Src.same 5000))) (zr nilP)) (An (An (zr (iv (x1:Int))) (zr true)) (An (An (ci (o28 hpre x1 hx1 y12 y13 y14 x15 hx15 y26 y28)) (zr nilN)) (An (An (zr (some (Src.same 5010))) (zr nilP)) tv)))))))) (An (An (An (zr (OB.cells 28 (cTwn t))) (zr true)) (An (An (zr 140) (An (An (An (zr 4) (An (zr (Hs.things (Twn.house t)).length) (fun (i39:Nat)=>(fun (y40:i39 < (Hs.things (Twn.house t)).length)=>(zr (cThg (thg (Twn.house t) i39))))))) (An (An (zr 3) (An (zr (Hs.marks (Twn.house t)).length) (fun (i41:Nat)=>(fun (y42:i41 < (Hs.marks (Twn.house t)).length)=>(zr (cMrk ((Hs.marks (Twn.house t)).getD i41 default))))))) (An (An (zr 1) (An (zr (Twn.places t).length) (fun (i43:Nat)=>(fun (y44:i43 < (Twn.places t).length)=>(zr ([iv ((Twn.places t).getD i43 0)])))))) (An (An (zr 1) (An (zr (Twn.carry t).length) (fun (i45:Nat)=>(fun (y46:i45 < (Twn.carry t).length)=>(zr ([iv ((Twn.carry t).getD i45 0)])))))) (An (An (zr 1) (An (zr (Twn.rooms t).length) (fun (i47:Nat)=>(fun (y48:i47 < (Twn.rooms t).length)=>(zr ([iv ((Twn.rooms t).getD i47 0)])))))) (An (An (zr (iv (Twn.minute t))) (zr nilN)) (An (zr (some (Src.same 5001))) (An (zr (some (Src.same 5002))) tv)))))))) (zr true))) (An (An (zr (OB.vec 144 3 x1 fun (k:Nat)=>cKnd t k)) (zr true)) (An (An (zr (OB.mp 137 IntKind.u64 (esT t x1))) (zr true)) (An (An (zr 144) (An (An (An (zr (iv (↑(pgN (Twn.house t) x1):Int))) (zr nilN)) (An (An (zr (iv 1)) (zr nilN)) (An (An (o29 hpre x1 hx1 y12 y13 y14 x15 hx15 y26 y28) (zr nilN)) tv))) (zr true))) tv))))) (An (zr true) (zr true))))) (o30 hpre x1 hx1 y12 y13 y14 x15 hx15 y26 y28) (o31 hpre x1 hx1 y12 y13 y14 x15 hx15 y26 y28)
    ·refine swp_exit ?_
     refine zR [2,27,28,29,7,10] [0,5000,5010,5001,5002] (Ak 6 (An (o32 hpre x1 hx1 y12 y13 y14 x15 hx15 y26) (Ak 2 (An (An (o33 hpre x1 hx1 y12 y13 y14 x15 hx15 y26) (o34 hpre x1 hx1 y12 y13 y14 x15 hx15 y26)) (An (An (o35 hpre x1 hx1 y12 y13 y14 x15 hx15 y26) (An (An (o36 hpre x1 hx1 y12 y13 y14 x15 hx15 y26) (o37 hpre x1 hx1 y12 y13 y14 x15 hx15 y26)) (o38 hpre x1 hx1 y12 y13 y14 x15 hx15 y26))) tv))))) ?_
     refine zR [2,27,28,29,7] [0,5000,20576,5002] (Ak 7 (An (o39 hpre x1 hx1 y12 y13 y14 x15 hx15 y26) (Ak 3 tv))) ?_
     refine zR [2,27,28,29,7] [0,5000,20576,5002] (An (o40 hpre x1 hx1 y12 y13 y14 x15 hx15 y26) (Ak 1 tv)) ?_
     exact zn (zE hE [] [(0,.same 0),(5000,.same 5000),(5001,.same 20576),(5002,.same 5002)] [27,28] [0] (An (An (An (zr (some (Src.same 0))) (zr nilP)) (An (An (zr (AV.sl 4 (Hs.things (Twn.house t)).length fun (i:Nat)=>cThg (thg (Twn.house t) i))) (zr true)) (An (An (zr (iv (↑((Hs.things (Twn.house t)).length):Int))) (zr true)) (An (An (ci (o41 hpre x1 hx1 y12 y13 y14 x15 hx15 y26)) (zr nilN)) (An (An (zr (some (Src.same 5000))) (zr nilP)) tv))))) (An (An (An (zr (OB.cells 28 (cTwn t))) (zr true)) (An (An (zr 140) (An (An (An (zr 4) (An (zr (Hs.things (Twn.house t)).length) (fun (i49:Nat)=>(fun (y50:i49 < (Hs.things (Twn.house t)).length)=>(zr (cThg (thg (Twn.house t) i49))))))) (An (An (zr 3) (An (zr (Hs.marks (Twn.house t)).length) (fun (i51:Nat)=>(fun (y52:i51 < (Hs.marks (Twn.house t)).length)=>(zr (cMrk ((Hs.marks (Twn.house t)).getD i51 default))))))) (An (An (zr 1) (An (zr (Twn.places t).length) (fun (i53:Nat)=>(fun (y54:i53 < (Twn.places t).length)=>(zr ([iv ((Twn.places t).getD i53 0)])))))) (An (An (zr 1) (An (zr (Twn.carry t).length) (fun (i55:Nat)=>(fun (y56:i55 < (Twn.carry t).length)=>(zr ([iv ((Twn.carry t).getD i55 0)])))))) (An (An (zr 1) (An (zr (Twn.rooms t).length) (fun (i57:Nat)=>(fun (y58:i57 < (Twn.rooms t).length)=>(zr ([iv ((Twn.rooms t).getD i57 0)])))))) (An (An (zr (iv (Twn.minute t))) (zr nilN)) (An (zr (some (Src.same 20576))) (An (zr (some (Src.same 5002))) tv)))))))) (zr true))) (An (An (zr 144) (An (zr 3) (An (zr (x1 + 1)) (fun (i59:Nat)=>(fun (y60:i59 < x1 + 1)=>(o42 hpre x1 hx1 y12 y13 y14 x15 hx15 y26 i59 y60)))))) (An (An (zr 137) (An (zr IntKind.u64) (o43 hpre x1 hx1 y12 y13 y14 x15 hx15 y26))) tv)))) (An (zr true) (zr true))))) (o44 hpre x1 hx1 y12 y13 y14 x15 hx15 y26) (o45 hpre x1 hx1 y12 y13 y14 x15 hx15 y26)
   ·refine swp_skip ?_
    refine zR [2,27,28,29,7] [0,5000,10456,5002] (Ak 7 (An (o46 hpre x1 hx1 y12 y13 y14) (Ak 3 tv))) ?_
    refine zR [2,27,28,29,7] [0,5000,10456,5002] (An (o47 hpre x1 hx1 y12 y13 y14) (Ak 1 tv)) ?_
    exact zn (zE hE [] [(0,.same 0),(5000,.same 5000),(5001,.same 10456),(5002,.same 5002)] [27,28] [0] (An (An (An (zr (some (Src.same 0))) (zr nilP)) (An (An (zr (AV.sl 4 (Hs.things (Twn.house t)).length fun (i:Nat)=>cThg (thg (Twn.house t) i))) (zr true)) (An (An (zr (iv (↑((Hs.things (Twn.house t)).length):Int))) (zr true)) (An (An (ci (o48 hpre x1 hx1 y12 y13 y14)) (zr nilN)) (An (An (zr (some (Src.same 5000))) (zr nilP)) tv))))) (An (An (An (zr (OB.cells 28 (cTwn t))) (zr true)) (An (An (zr 140) (An (An (An (zr 4) (An (zr (Hs.things (Twn.house t)).length) (fun (i61:Nat)=>(fun (y62:i61 < (Hs.things (Twn.house t)).length)=>(zr (cThg (thg (Twn.house t) i61))))))) (An (An (zr 3) (An (zr (Hs.marks (Twn.house t)).length) (fun (i63:Nat)=>(fun (y64:i63 < (Hs.marks (Twn.house t)).length)=>(zr (cMrk ((Hs.marks (Twn.house t)).getD i63 default))))))) (An (An (zr 1) (An (zr (Twn.places t).length) (fun (i65:Nat)=>(fun (y66:i65 < (Twn.places t).length)=>(zr ([iv ((Twn.places t).getD i65 0)])))))) (An (An (zr 1) (An (zr (Twn.carry t).length) (fun (i67:Nat)=>(fun (y68:i67 < (Twn.carry t).length)=>(zr ([iv ((Twn.carry t).getD i67 0)])))))) (An (An (zr 1) (An (zr (Twn.rooms t).length) (fun (i69:Nat)=>(fun (y70:i69 < (Twn.rooms t).length)=>(zr ([iv ((Twn.rooms t).getD i69 0)])))))) (An (An (zr (iv (Twn.minute t))) (zr nilN)) (An (zr (some (Src.same 10456))) (An (zr (some (Src.same 5002))) tv)))))))) (zr true))) (An (An (zr 144) (An (zr 3) (An (zr (x1 + 1)) (fun (i71:Nat)=>(fun (y72:i71 < x1 + 1)=>(o49 hpre x1 hx1 y12 y13 y14 i71 y72)))))) (An (An (zr 137) (An (zr IntKind.u64) (o50 hpre x1 hx1 y12 y13 y14))) tv)))) (An (zr true) (zr true))))) (o51 hpre x1 hx1 y12 y13 y14) (o52 hpre x1 hx1 y12 y13 y14)
  ·refine swp_skip ?_
   refine swp_seq ?_
   refine swp_seq ?_
   refine zR [2,27,28,29,7,8,10,53] [0,5000,10232,5001,5002] (Ak 5 tv) ?_
   refine zI (decide (Thg.at_ (thg (Twn.house t) x1)<=Twn.minute t)) (fun y73 => ?_) (fun y73 => ?_)
   ·refine swp_seq ?_
    refine zR [2,27,28,29,7,8,10] [0,5000,10232,5001,5002] (Ak 2 tv) ?_
    refine swp_seq ?_
    refine swp_seq ?_
    refine zR [2,27,28,29,7,8,10,55] [0,5000,10232,5001,5002] (Ak 1 tv) ?_
    refine swp_block ?_
    refine zL (Hint.ann (h47b t is x1) [(2,AV.ptr 0 []),(27,AV.sl 4 (Hs.things (Twn.house t)).length fun (i:Nat)=>cThg (thg (Twn.house t) i)),(28,iv (↑((Hs.things (Twn.house t)).length):Int)),(29,iv (x1:Int)),(7,AV.ptr 5000 []),(8,iv (x1:Int))] [(0,OB.cells 28 (cTwn t)),(5000,OB.cells 140 [AV.sl 4 (Hs.things (Twn.house t)).length fun (i:Nat)=>cThg (thg (Twn.house t) i),aMrks (Hs.marks (Twn.house t)),aInts (Twn.places t),aInts (Twn.carry t),aInts (Twn.rooms t),iv (Twn.minute t),AV.vec 5001,AV.vec 5002]),(5001,OB.vec 144 3 x1 fun (k:Nat)=>cKnd t k),(5002,OB.mp 137 IntKind.u64 (esT t x1))] 20336) (zE hE [] [(0,.same 0),(5000,.same 5000),(5001,.same 5001),(5002,.same 5002),(5010,.same 10232)] [27,28,29,8] [0,5001,5002] (An (An (An (zr (some (Src.same 0))) (zr nilP)) (An (An (zr (AV.sl 4 (Hs.things (Twn.house t)).length fun (i:Nat)=>cThg (thg (Twn.house t) i))) (zr true)) (An (An (zr (iv (↑((Hs.things (Twn.house t)).length):Int))) (zr true)) (An (An (zr (iv (x1:Int))) (zr true)) (An (An (zr (some (Src.same 5000))) (zr nilP)) (An (An (zr (iv (x1:Int))) (zr true)) (An (An (ci (o53 hpre x1 hx1 y12 y13 y73)) (zr nilN)) (An (An (zr (some (Src.same 10232))) (zr nilP)) tv)))))))) (An (An (An (zr (OB.cells 28 (cTwn t))) (zr true)) (An (An (zr 140) (An (An (An (zr 4) (An (zr (Hs.things (Twn.house t)).length) (fun (i75:Nat)=>(fun (y76:i75 < (Hs.things (Twn.house t)).length)=>(zr (cThg (thg (Twn.house t) i75))))))) (An (An (zr 3) (An (zr (Hs.marks (Twn.house t)).length) (fun (i77:Nat)=>(fun (y78:i77 < (Hs.marks (Twn.house t)).length)=>(zr (cMrk ((Hs.marks (Twn.house t)).getD i77 default))))))) (An (An (zr 1) (An (zr (Twn.places t).length) (fun (i79:Nat)=>(fun (y80:i79 < (Twn.places t).length)=>(zr ([iv ((Twn.places t).getD i79 0)])))))) (An (An (zr 1) (An (zr (Twn.carry t).length) (fun (i81:Nat)=>(fun (y82:i81 < (Twn.carry t).length)=>(zr ([iv ((Twn.carry t).getD i81 0)])))))) (An (An (zr 1) (An (zr (Twn.rooms t).length) (fun (i83:Nat)=>(fun (y84:i83 < (Twn.rooms t).length)=>(zr ([iv ((Twn.rooms t).getD i83 0)])))))) (An (An (zr (iv (Twn.minute t))) (zr nilN)) (An (zr (some (Src.same 5001))) (An (zr (some (Src.same 5002))) tv)))))))) (zr true))) (An (An (zr (OB.vec 144 3 x1 fun (k:Nat)=>cKnd t k)) (zr true)) (An (An (zr (OB.mp 137 IntKind.u64 (esT t x1))) (zr true)) (An (An (zr 144) (An (An (An (ci (o54 hpre x1 hx1 y12 y13 y73)) (zr nilN)) (An (An (zr (iv 1)) (zr nilN)) (An (An (o55 hpre x1 hx1 y12 y13 y73) (zr nilN)) tv))) (zr true))) tv))))) (An (zr true) (zr true))))) (o56 hpre x1 hx1 y12 y13 y73) (fun (x74:Nat) hx74 => ?_)
    refine swp_seq ?_
    refine zR [2,27,28,29,7,8,55,10,56] [0,5000,5010,5001,5002] (Ak 1 tv) ?_
    refine swp_seq ?_
    refine zI (decide ((x74:Int) < 3)) (fun y85 => ?_) (fun y85 => ?_)
    ·refine swp_skip ?_
     refine swp_seq ?_
     refine swp_block ?_
     refine swp_seq ?_
     refine zR [2,27,28,29,7,8,55,10,11] [0,5000,5010,5001,5002] (Ak 2 tv) ?_
     refine swp_seq ?_
     refine zC ([(6,CallSpec.eq (s84 (Twn.house t) (x1:Int) (x74:Int) (Twn.minute t)) [true,true,true,true])]) [2,27,28,29,7,8,55,10,11,12] [0,5000,5010,5001,5002] (Ak 6 (An (An (An (zr (AV.agg (cHs (Twn.house t)))) (An (zr (iv (x1:Int))) (An (zr (iv (x74:Int))) (An (zr (iv (Twn.minute t))) tv)))) (An (t84 (Twn.house t) ((x1:Int)) ((x74:Int)) (Twn.minute t)) (An (An (o57 hpre x1 hx1 y12 y13 y73 x74 hx74 y85) (An (o58 hpre x1 hx1 y12 y13 y73 x74 hx74 y85) (An (o59 hpre x1 hx1 y12 y13 y73 x74 hx74 y85) (o60 hpre x1 hx1 y12 y13 y73 x74 hx74 y85)))) (Ak 1 (fun (i86:Env)=>tv))))) (Ak 5 tv))) ?_
     refine swp_seq ?_
     refine zR [2,27,28,29,7,8,55,10,11,68] [0,5000,5010,5001,5002] (Ak 1 tv) ?_
     refine zI (hasH (Twn.house t) (x1:Int) (x74:Int) (Twn.minute t)) (fun y87 => ?_) (fun y87 => ?_)
     ·refine zR [2,27,28,29,7,8,55,10] [0,5000,5010,5001,5002] (Ak 3 (An (An (o61 hpre x1 hx1 y12 y13 y73 x74 hx74 y85 y87) (An (o62 hpre x1 hx1 y12 y13 y73 x74 hx74 y85 y87) (o63 hpre x1 hx1 y12 y13 y73 x74 hx74 y85 y87))) (An (An (o64 hpre x1 hx1 y12 y13 y73 x74 hx74 y85 y87) (o65 hpre x1 hx1 y12 y13 y73 x74 hx74 y85 y87)) (Ak 2 tv)))) ?_
      refine zR [2,27,28,29,7,8,55,10] [0,5000,5010,5001,5002] (An (o66 hpre x1 hx1 y12 y13 y73 x74 hx74 y85 y87) (Ak 1 tv)) ?_
      exact zn (zE hE [] [(0,.same 0),(5000,.same 5000),(5001,.same 5001),(5002,.same 5002),(5010,.same 5010)] [27,28,29,8] [0,5001,5002] (An (An (An (zr (some (Src.same 0))) (zr nilP)) (An (An (zr (AV.sl 4 (Hs.things (Twn.house t)).length fun (i:Nat)=>cThg (thg (Twn.house t) i))) (zr true)) (An (An (zr (iv (↑((Hs.things (Twn.house t)).length):Int))) (zr true)) (An (An (zr (iv (x1:Int))) (zr true)) (An (An (zr (some (Src.same 5000))) (zr nilP)) (An (An (zr (iv (x1:Int))) (zr true)) (An (An (ci (o67 hpre x1 hx1 y12 y13 y73 x74 hx74 y85 y87)) (zr nilN)) (An (An (zr (some (Src.same 5010))) (zr nilP)) tv)))))))) (An (An (An (zr (OB.cells 28 (cTwn t))) (zr true)) (An (An (zr 140) (An (An (An (zr 4) (An (zr (Hs.things (Twn.house t)).length) (fun (i88:Nat)=>(fun (y89:i88 < (Hs.things (Twn.house t)).length)=>(zr (cThg (thg (Twn.house t) i88))))))) (An (An (zr 3) (An (zr (Hs.marks (Twn.house t)).length) (fun (i90:Nat)=>(fun (y91:i90 < (Hs.marks (Twn.house t)).length)=>(zr (cMrk ((Hs.marks (Twn.house t)).getD i90 default))))))) (An (An (zr 1) (An (zr (Twn.places t).length) (fun (i92:Nat)=>(fun (y93:i92 < (Twn.places t).length)=>(zr ([iv ((Twn.places t).getD i92 0)])))))) (An (An (zr 1) (An (zr (Twn.carry t).length) (fun (i94:Nat)=>(fun (y95:i94 < (Twn.carry t).length)=>(zr ([iv ((Twn.carry t).getD i94 0)])))))) (An (An (zr 1) (An (zr (Twn.rooms t).length) (fun (i96:Nat)=>(fun (y97:i96 < (Twn.rooms t).length)=>(zr ([iv ((Twn.rooms t).getD i96 0)])))))) (An (An (zr (iv (Twn.minute t))) (zr nilN)) (An (zr (some (Src.same 5001))) (An (zr (some (Src.same 5002))) tv)))))))) (zr true))) (An (An (zr (OB.vec 144 3 x1 fun (k:Nat)=>cKnd t k)) (zr true)) (An (An (zr (OB.mp 137 IntKind.u64 (esT t x1))) (zr true)) (An (An (zr 144) (An (An (An (zr (iv (↑(pgN (Twn.house t) x1):Int))) (zr nilN)) (An (An (zr (iv 1)) (zr nilN)) (An (An (o68 hpre x1 hx1 y12 y13 y73 x74 hx74 y85 y87) (zr nilN)) tv))) (zr true))) tv))))) (An (zr true) (zr true))))) (o69 hpre x1 hx1 y12 y13 y73 x74 hx74 y85 y87) (o70 hpre x1 hx1 y12 y13 y73 x74 hx74 y85 y87)
     ·refine swp_skip ?_
      refine zR [2,27,28,29,7,8,55,10] [0,5000,5010,5001,5002] (An (o71 hpre x1 hx1 y12 y13 y73 x74 hx74 y85 y87) (Ak 1 tv)) ?_
      exact zn (zE hE [] [(0,.same 0),(5000,.same 5000),(5001,.same 5001),(5002,.same 5002),(5010,.same 5010)] [27,28,29,8] [0,5001,5002] (An (An (An (zr (some (Src.same 0))) (zr nilP)) (An (An (zr (AV.sl 4 (Hs.things (Twn.house t)).length fun (i:Nat)=>cThg (thg (Twn.house t) i))) (zr true)) (An (An (zr (iv (↑((Hs.things (Twn.house t)).length):Int))) (zr true)) (An (An (zr (iv (x1:Int))) (zr true)) (An (An (zr (some (Src.same 5000))) (zr nilP)) (An (An (zr (iv (x1:Int))) (zr true)) (An (An (ci (o72 hpre x1 hx1 y12 y13 y73 x74 hx74 y85 y87)) (zr nilN)) (An (An (zr (some (Src.same 5010))) (zr nilP)) tv)))))))) (An (An (An (zr (OB.cells 28 (cTwn t))) (zr true)) (An (An (zr 140) (An (An (An (zr 4) (An (zr (Hs.things (Twn.house t)).length) (fun (i98:Nat)=>(fun (y99:i98 < (Hs.things (Twn.house t)).length)=>(zr (cThg (thg (Twn.house t) i98))))))) (An (An (zr 3) (An (zr (Hs.marks (Twn.house t)).length) (fun (i100:Nat)=>(fun (y101:i100 < (Hs.marks (Twn.house t)).length)=>(zr (cMrk ((Hs.marks (Twn.house t)).getD i100 default))))))) (An (An (zr 1) (An (zr (Twn.places t).length) (fun (i102:Nat)=>(fun (y103:i102 < (Twn.places t).length)=>(zr ([iv ((Twn.places t).getD i102 0)])))))) (An (An (zr 1) (An (zr (Twn.carry t).length) (fun (i104:Nat)=>(fun (y105:i104 < (Twn.carry t).length)=>(zr ([iv ((Twn.carry t).getD i104 0)])))))) (An (An (zr 1) (An (zr (Twn.rooms t).length) (fun (i106:Nat)=>(fun (y107:i106 < (Twn.rooms t).length)=>(zr ([iv ((Twn.rooms t).getD i106 0)])))))) (An (An (zr (iv (Twn.minute t))) (zr nilN)) (An (zr (some (Src.same 5001))) (An (zr (some (Src.same 5002))) tv)))))))) (zr true))) (An (An (zr (OB.vec 144 3 x1 fun (k:Nat)=>cKnd t k)) (zr true)) (An (An (zr (OB.mp 137 IntKind.u64 (esT t x1))) (zr true)) (An (An (zr 144) (An (An (An (zr (iv (↑(pgN (Twn.house t) x1):Int))) (zr nilN)) (An (An (zr (iv 1)) (zr nilN)) (An (An (o73 hpre x1 hx1 y12 y13 y73 x74 hx74 y85 y87) (zr nilN)) tv))) (zr true))) tv))))) (An (zr true) (zr true))))) (o74 hpre x1 hx1 y12 y13 y73 x74 hx74 y85 y87) (o75 hpre x1 hx1 y12 y13 y73 x74 hx74 y85 y87)
    ·refine swp_exit ?_
     refine zR [2,27,28,29,7,10] [0,5000,5010,5001,5002] (Ak 6 (An (o76 hpre x1 hx1 y12 y13 y73 x74 hx74 y85) (Ak 2 (An (An (o77 hpre x1 hx1 y12 y13 y73 x74 hx74 y85) (o78 hpre x1 hx1 y12 y13 y73 x74 hx74 y85)) (An (An (o79 hpre x1 hx1 y12 y13 y73 x74 hx74 y85) (An (An (o80 hpre x1 hx1 y12 y13 y73 x74 hx74 y85) (o81 hpre x1 hx1 y12 y13 y73 x74 hx74 y85)) (o82 hpre x1 hx1 y12 y13 y73 x74 hx74 y85))) tv))))) ?_
     refine zR [2,27,28,29,7] [0,5000,20488,5002] (Ak 7 (An (o83 hpre x1 hx1 y12 y13 y73 x74 hx74 y85) (Ak 3 tv))) ?_
     refine zR [2,27,28,29,7] [0,5000,20488,5002] (An (o84 hpre x1 hx1 y12 y13 y73 x74 hx74 y85) (Ak 1 tv)) ?_
     exact zn (zE hE [] [(0,.same 0),(5000,.same 5000),(5001,.same 20488),(5002,.same 5002)] [27,28] [0] (An (An (An (zr (some (Src.same 0))) (zr nilP)) (An (An (zr (AV.sl 4 (Hs.things (Twn.house t)).length fun (i:Nat)=>cThg (thg (Twn.house t) i))) (zr true)) (An (An (zr (iv (↑((Hs.things (Twn.house t)).length):Int))) (zr true)) (An (An (ci (o85 hpre x1 hx1 y12 y13 y73 x74 hx74 y85)) (zr nilN)) (An (An (zr (some (Src.same 5000))) (zr nilP)) tv))))) (An (An (An (zr (OB.cells 28 (cTwn t))) (zr true)) (An (An (zr 140) (An (An (An (zr 4) (An (zr (Hs.things (Twn.house t)).length) (fun (i108:Nat)=>(fun (y109:i108 < (Hs.things (Twn.house t)).length)=>(zr (cThg (thg (Twn.house t) i108))))))) (An (An (zr 3) (An (zr (Hs.marks (Twn.house t)).length) (fun (i110:Nat)=>(fun (y111:i110 < (Hs.marks (Twn.house t)).length)=>(zr (cMrk ((Hs.marks (Twn.house t)).getD i110 default))))))) (An (An (zr 1) (An (zr (Twn.places t).length) (fun (i112:Nat)=>(fun (y113:i112 < (Twn.places t).length)=>(zr ([iv ((Twn.places t).getD i112 0)])))))) (An (An (zr 1) (An (zr (Twn.carry t).length) (fun (i114:Nat)=>(fun (y115:i114 < (Twn.carry t).length)=>(zr ([iv ((Twn.carry t).getD i114 0)])))))) (An (An (zr 1) (An (zr (Twn.rooms t).length) (fun (i116:Nat)=>(fun (y117:i116 < (Twn.rooms t).length)=>(zr ([iv ((Twn.rooms t).getD i116 0)])))))) (An (An (zr (iv (Twn.minute t))) (zr nilN)) (An (zr (some (Src.same 20488))) (An (zr (some (Src.same 5002))) tv)))))))) (zr true))) (An (An (zr 144) (An (zr 3) (An (zr (x1 + 1)) (fun (i118:Nat)=>(fun (y119:i118 < x1 + 1)=>(o86 hpre x1 hx1 y12 y13 y73 x74 hx74 y85 i118 y119)))))) (An (An (zr 137) (An (zr IntKind.u64) (o87 hpre x1 hx1 y12 y13 y73 x74 hx74 y85))) tv)))) (An (zr true) (zr true))))) (o88 hpre x1 hx1 y12 y13 y73 x74 hx74 y85) (o89 hpre x1 hx1 y12 y13 y73 x74 hx74 y85)
   ·refine swp_skip ?_
    refine zR [2,27,28,29,7] [0,5000,10368,5002] (Ak 7 (An (o90 hpre x1 hx1 y12 y13 y73) (Ak 3 tv))) ?_
    refine zR [2,27,28,29,7] [0,5000,10368,5002] (An (o91 hpre x1 hx1 y12 y13 y73) (Ak 1 tv)) ?_
    exact zn (zE hE [] [(0,.same 0),(5000,.same 5000),(5001,.same 10368),(5002,.same 5002)] [27,28] [0] (An (An (An (zr (some (Src.same 0))) (zr nilP)) (An (An (zr (AV.sl 4 (Hs.things (Twn.house t)).length fun (i:Nat)=>cThg (thg (Twn.house t) i))) (zr true)) (An (An (zr (iv (↑((Hs.things (Twn.house t)).length):Int))) (zr true)) (An (An (ci (o92 hpre x1 hx1 y12 y13 y73)) (zr nilN)) (An (An (zr (some (Src.same 5000))) (zr nilP)) tv))))) (An (An (An (zr (OB.cells 28 (cTwn t))) (zr true)) (An (An (zr 140) (An (An (An (zr 4) (An (zr (Hs.things (Twn.house t)).length) (fun (i120:Nat)=>(fun (y121:i120 < (Hs.things (Twn.house t)).length)=>(zr (cThg (thg (Twn.house t) i120))))))) (An (An (zr 3) (An (zr (Hs.marks (Twn.house t)).length) (fun (i122:Nat)=>(fun (y123:i122 < (Hs.marks (Twn.house t)).length)=>(zr (cMrk ((Hs.marks (Twn.house t)).getD i122 default))))))) (An (An (zr 1) (An (zr (Twn.places t).length) (fun (i124:Nat)=>(fun (y125:i124 < (Twn.places t).length)=>(zr ([iv ((Twn.places t).getD i124 0)])))))) (An (An (zr 1) (An (zr (Twn.carry t).length) (fun (i126:Nat)=>(fun (y127:i126 < (Twn.carry t).length)=>(zr ([iv ((Twn.carry t).getD i126 0)])))))) (An (An (zr 1) (An (zr (Twn.rooms t).length) (fun (i128:Nat)=>(fun (y129:i128 < (Twn.rooms t).length)=>(zr ([iv ((Twn.rooms t).getD i128 0)])))))) (An (An (zr (iv (Twn.minute t))) (zr nilN)) (An (zr (some (Src.same 10368))) (An (zr (some (Src.same 5002))) tv)))))))) (zr true))) (An (An (zr 144) (An (zr 3) (An (zr (x1 + 1)) (fun (i130:Nat)=>(fun (y131:i130 < x1 + 1)=>(o93 hpre x1 hx1 y12 y13 y73 i130 y131)))))) (An (An (zr 137) (An (zr IntKind.u64) (o94 hpre x1 hx1 y12 y13 y73))) tv)))) (An (zr true) (zr true))))) (o95 hpre x1 hx1 y12 y13 y73) (o96 hpre x1 hx1 y12 y13 y73)
 ·refine swp_exit ?_
  refine swp_seq ?_
  refine swp_ent (zE (st2:=ASt.mk [(2,AV.ptr 0 []),(27,AV.sl 4 (Hs.things (Twn.house t)).length fun (i:Nat)=>cThg (thg (Twn.house t) i)),(28,iv (↑((Hs.things (Twn.house t)).length):Int)),(29,iv (x1:Int)),(7,AV.ptr 5000 []),(30,bv (decide ((x1:Int) < (↑((Hs.things (Twn.house t)).length):Int))))] [(0,OB.cells 28 [AV.sl 4 (Hs.things (Twn.house t)).length fun (i:Nat)=>cThg (thg (Twn.house t) i),AV.sl 3 (Hs.marks (Twn.house t)).length fun (i:Nat)=>cMrk ((Hs.marks (Twn.house t)).getD i default),AV.sl 1 (Twn.places t).length fun (i:Nat)=>[iv ((Twn.places t).getD i 0)],AV.sl 1 (Twn.carry t).length fun (i:Nat)=>[iv ((Twn.carry t).getD i 0)],AV.sl 1 (Twn.rooms t).length fun (i:Nat)=>[iv ((Twn.rooms t).getD i 0)],iv (Twn.minute t)]),(5000,OB.cells 140 [AV.sl 4 (Hs.things (Twn.house t)).length fun (i:Nat)=>cThg (thg (Twn.house t) i),AV.sl 3 (Hs.marks (Twn.house t)).length fun (i:Nat)=>cMrk ((Hs.marks (Twn.house t)).getD i default),AV.sl 1 (Twn.places t).length fun (i:Nat)=>[iv ((Twn.places t).getD i 0)],AV.sl 1 (Twn.carry t).length fun (i:Nat)=>[iv ((Twn.carry t).getD i 0)],AV.sl 1 (Twn.rooms t).length fun (i:Nat)=>[iv ((Twn.rooms t).getD i 0)],iv (Twn.minute t),AV.sl 3 x1 fun (k:Nat)=>cKnd t k,AV.vec 5002]),(5002,OB.mp 137 IntKind.u64 (esT t x1))] 10168) hE [5001] [(0,.same 0),(5000,.same 5000),(5002,.same 5002)] [27,28,29,30] [5002] (An (An (An (zr (some (Src.same 0))) (zr nilP)) (An (An (zr (AV.sl 4 (Hs.things (Twn.house t)).length fun (i:Nat)=>cThg (thg (Twn.house t) i))) (zr true)) (An (An (zr (iv (↑((Hs.things (Twn.house t)).length):Int))) (zr true)) (An (An (zr (iv (x1:Int))) (zr true)) (An (An (zr (some (Src.same 5000))) (zr nilP)) (An (An (zr (bv (decide ((x1:Int) < (↑((Hs.things (Twn.house t)).length):Int))))) (zr true)) tv)))))) (An (An (An (zr 28) (An (An (An (zr 4) (An (zr (Hs.things (Twn.house t)).length) (fun (i132:Nat)=>(fun (y133:i132 < (Hs.things (Twn.house t)).length)=>(zr (cThg (thg (Twn.house t) i132))))))) (An (An (zr 3) (An (zr (Hs.marks (Twn.house t)).length) (fun (i134:Nat)=>(fun (y135:i134 < (Hs.marks (Twn.house t)).length)=>(zr (cMrk ((Hs.marks (Twn.house t)).getD i134 default))))))) (An (An (zr 1) (An (zr (Twn.places t).length) (fun (i136:Nat)=>(fun (y137:i136 < (Twn.places t).length)=>(zr ([iv ((Twn.places t).getD i136 0)])))))) (An (An (zr 1) (An (zr (Twn.carry t).length) (fun (i138:Nat)=>(fun (y139:i138 < (Twn.carry t).length)=>(zr ([iv ((Twn.carry t).getD i138 0)])))))) (An (An (zr 1) (An (zr (Twn.rooms t).length) (fun (i140:Nat)=>(fun (y141:i140 < (Twn.rooms t).length)=>(zr ([iv ((Twn.rooms t).getD i140 0)])))))) (An (An (zr (iv (Twn.minute t))) (zr nilN)) tv)))))) (zr true))) (An (An (zr 140) (An (An (An (zr 4) (An (zr (Hs.things (Twn.house t)).length) (fun (i142:Nat)=>(fun (y143:i142 < (Hs.things (Twn.house t)).length)=>(zr (cThg (thg (Twn.house t) i142))))))) (An (An (zr 3) (An (zr (Hs.marks (Twn.house t)).length) (fun (i144:Nat)=>(fun (y145:i144 < (Hs.marks (Twn.house t)).length)=>(zr (cMrk ((Hs.marks (Twn.house t)).getD i144 default))))))) (An (An (zr 1) (An (zr (Twn.places t).length) (fun (i146:Nat)=>(fun (y147:i146 < (Twn.places t).length)=>(zr ([iv ((Twn.places t).getD i146 0)])))))) (An (An (zr 1) (An (zr (Twn.carry t).length) (fun (i148:Nat)=>(fun (y149:i148 < (Twn.carry t).length)=>(zr ([iv ((Twn.carry t).getD i148 0)])))))) (An (An (zr 1) (An (zr (Twn.rooms t).length) (fun (i150:Nat)=>(fun (y151:i150 < (Twn.rooms t).length)=>(zr ([iv ((Twn.rooms t).getD i150 0)])))))) (An (An (zr (iv (Twn.minute t))) (zr nilN)) (An (An (zr 3) (An (zr x1) (fun (i152:Nat)=>(fun (y153:i152 < x1)=>(zr (cKnd t i152)))))) (An (zr (some (Src.same 5002))) tv)))))))) (zr true))) (An (An (zr (OB.mp 137 IntKind.u64 (esT t x1))) (zr true)) tv))) (An (zr true) (zr true))))) ?_
  refine swp_ent (zFm rfl 5002) ?_
  refine swp_ent (zF 5000) ?_
  refine zR [4,5] [] (Ak 3 tv) ?_
  refine swp_ret ?_
  exact zT [] (An (Ak 2 tv) (An (An (An (o97 hpre x1 hx1 y12) (zr nilN)) (An (An (zr (iv 0)) (zr nilN)) tv)) (An (zr true) (An (zr true) (zr true)))))
theorem lorI_lt {a b:Int} (ha:0<=a/\a < 8) (hb:0<=b/\b < 8):0<=lorI a b/\lorI a b < 8:=by
 have h:=Nat.or_lt_two_pow (x:=a.toNat) (y:=b.toNat) (n:=3) (by omega) (by omega)
 unfold lorI
 omega
theorem pow_lt {c:Nat} (h:c < 3):0<=(1 * 2 ^ c:Int)/\(1 * 2 ^ c:Int) < 8:=by
 match c,h with
 | 0,_=>decide
 | 1,_=>decide
 | 2,_=>decide
theorem setTo_lt (t:Twn) (i:Nat):∀ c,c<=3->0<=setTo t i c/\setTo t i c < 8:=by
 intro c
 induction c with
 | zero=>intro _; exact ⟨Int.le_refl _,by show (0:Int) < 8; omega⟩
 | succ c ih =>
  intro h
  rw [setTo]
  split
  ·exact lorI_lt (ih (by omega)) (pow_lt (by omega))
  ·exact ih (by omega)
theorem esT_lt (t:Twn) (k:Int):∀ n,0<=mlook (esT t n) k/\mlook (esT t n) k < 8:=by
 intro n
 induction n generalizing k with
 | zero=>exact ⟨Int.le_refl _,by show (0:Int) < 8; omega⟩
 | succ n ih =>
  rw [esT]
  split
  ·rw [mlook_snoc]
   split
   ·exact lorI_lt (ih _) (setTo_lt t n 3 (Nat.le_refl _))
   ·exact ih k
  ·exact ih k
theorem esT_len (t:Twn):∀ n,(esT t n).length<=n:=by
 intro n
 induction n with
 | zero=>exact Nat.le_refl _
 | succ n ih =>
  rw [esT]
  split
  ·rw [List.length_append,List.length_singleton]; omega
  ·omega
theorem catF_knd {t:Twn} {x:Nat} {c dd:List AV} (hc:c=cKnd t x) {i:Nat} (hi:i < x + 1):catF x (fun k=>cKnd t k) (fun j=>[c].getD j dd) i=cKnd t i:=by
 unfold catF
 by_cases h:i < x
 ·rw [if_pos h]
 ·have e:i=x:=by omega
  subst e
  rw [if_neg h,Nat.sub_self,hc]; rfl
theorem t47 (t:Twn) (is:Bool):Triple Try.prog 47 (s47 t is):=by
 apply w47
 all_goals (try delta q32 q33 q34 q35 q36 q37 q38 q39 q3a q3b q3c q3d q3e q3f q3g q3h q3i q3j q3k)
 all_goals (intro hp; obtain ⟨hok,his⟩:=hp; obtain ⟨hH,hr,hpl,hca,hmi,hP,hR,hro⟩:=okTwn_iff.1 hok; obtain ⟨l1,l2,hT,hM⟩:=okH_iff.1 hH)
 case o0=>rw [his]; rfl
 case o1=>rfl
 case o2=>rfl
 case o3=>omega
 case o97 =>
  intro x hx hl
  simp only [decide_eq_false_iff_not] at hl
  have e:x=t.house.things.length:=by omega
  subst e
  rfl
 all_goals (intro x hx hl; simp only [decide_eq_true_eq] at hl; have hf:=(okT_facts (hT x (by omega))).1; have hpg:=pgN_lt (h:=t.house) (n:=t.house.things.length) (fun i hi=>by have:=(okT_facts (hT i hi)).1; omega) x (by omega); have hes:=esT_lt t (pgN t.house x:Int) x; have hel:=esT_len t x)
 case o4 | o5=>omega
 all_goals (intro hh; simp only [Bool.not_eq_true',Bool.not_eq_false',decide_eq_true_eq,decide_eq_false_iff_not] at hh)
 case o6 | o7 | o8=>omega
 all_goals (intro ht)
 case o10=>rw [pgN_eq t.house x (.inr (by omega)),if_neg hh]
 case o54=>rw [pgN_eq t.house x (.inl hh),if_pos hh]
 case o9 | o53=>rfl
 case o11 | o55=>rfl
 case o12 | o56=>omega
 case o46 | o90=>omega
 case o47 | o91=>constructor <;> omega
 case o48 | o92 | o51 | o52 | o95 | o96=>omega
 case o49 =>
  intro i hi
  refine catF_knd ?_ hi
  have h2:thereT t x=false:=ht
  rw [cKnd,thrN,setT,h2,pgN_eq t.house x (.inr (by omega)),if_neg hh]; rfl
 case o93 =>
  intro i hi
  refine catF_knd ?_ hi
  have h2:thereT t x=false:=ht
  rw [cKnd,thrN,setT,h2,pgN_eq t.house x (.inl hh),if_pos hh]; rfl
 case o50 | o94=>have h2:thereT t x=false:=ht; rw [esT,h2]; rfl
 all_goals (intro c hc hcl; simp only [decide_eq_true_eq,decide_eq_false_iff_not] at hcl; have hs:=setTo_lt t x c hc; have h2:thereT t x=true:=ht)
 case o13 | o57=>exact hH
 case o14 | o58=>exact isThing_iff.2 (by omega)
 case o15 | o59=>exact Go.Sh.within_iff.2 (by omega)
 case o16 | o60=>exact Go.Sh.within_iff.2 hmi
 case o32 | o35 | o40 | o76 | o79 | o84=>constructor <;> omega
 case o33 | o77=>exact ⟨hes.1,by omega⟩
 case o34 | o78=>exact ⟨hs.1,by omega⟩
 case o36 | o80=>exact (lorI_lt hes hs).1
 case o37 | o81=>have:=(lorI_lt hes hs).2; omega
 case o38 | o39 | o41 | o44 | o45 | o82 | o83 | o85 | o88 | o89=>omega
 case o42 | o86 =>
  intro i hi
  have e:c=3:=by omega
  subst e
  refine catF_knd ?_ hi
  rw [cKnd,thrN,setT,h2]; rfl
 case o43 | o87 =>
  have e:c=3:=by omega
  subst e
  rw [esT,h2]; rfl
 all_goals (intro hc2; try have hpw:=pow_lt (c:=c) (by omega))
 case o19 | o63=>exact ⟨hpw.1,by omega⟩
 case o20 | o64=>exact ⟨hs.1,by omega⟩
 case o21 | o65=>exact ⟨hpw.1,by omega⟩
 case o22 | o66 | o27 | o71=>constructor <;> omega
 case o24 | o68=>have h3:hasT t x c=true:=hc2; rw [setTo,h3]; rfl
 case o29 | o73=>have h3:hasT t x c=false:=hc2; rw [setTo,h3]; rfl
 all_goals omega
abbrev q3l (t:Twn) (i:Nat) (Pq:Prop):Prop:=okH (Twn.house t)=true/\i < (Hs.things (Twn.house t)).length->Pq
theorem w49 (t:Twn) (i:Nat)
 (o0:q3l t i (0<=(i:Int)))
 (o1:q3l t i ((i:Int) < (↑((Hs.things (Twn.house t)).length):Int)))
 (o2:q3l t i (decide (thrN t i=1)=true->inI (↑(pgN (Twn.house t) i):Int)))
 (o3:q3l t i ((bif decide (thrN t i=1) then decide (setT t i=mlook (pagesT t) (↑(pgN (Twn.house t) i):Int)) else false)=freshT t i)) :
  Triple Try.prog 49 (s49 t i):=by
 refine triple_of Try.func49 rfl Try.call49 T0_ok _ rfl rfl rfl rfl (Nat.le_of_ble_eq_true (by kernel_rfl)) (fun _ _ _ _ h=>h) ?_
 intro hpre C hC _ hE
 obtain ⟨P,w0,E0,av,hA,ro,df⟩:=C
 obtain ⟨rfl,rfl,rfl⟩:=hC
 refine swp_seq ?_
 refine zR [0,1] [] (Ak 1 tv) ?_
 refine swp_seq ?_
 refine zR [0,5] [64] (Ak 5 (An (An (o0 hpre) (o1 hpre)) (Ak 3 tv))) ?_
 refine swp_seq ?_
 refine zR [4] [] (Ak 4 (An (fun (y0:decide (thrN t i=1)=true)=>(An (Ak 1 tv) tv)) (An (fun (y1:decide (thrN t i=1)=true)=>(An (An (fun (y2:decide (thrN t i=1)=true)=>y1) tv) tv)) (An (fun (y3:decide (thrN t i=1)=true)=>(An (Ak 1 tv) tv)) (An (fun (y4:decide (thrN t i=1)=true)=>(An (An (fun (y5:decide (thrN t i=1)=true)=>y4) tv) tv)) (An (fun (y6:decide (thrN t i=1)=true)=>(An (An (fun (y7:decide (thrN t i=1)=true)=>y6) tv) tv)) (An (fun (y8:decide (thrN t i=1)=true)=>(An (An (fun (y9:decide (thrN t i=1)=true)=>y8) tv) tv)) (An (fun (y10:decide (thrN t i=1)=true)=>(An (Ak 1 tv) tv)) (An (fun (y11:decide (thrN t i=1)=true)=>(An (An (fun (y12:decide (thrN t i=1)=true)=>y11) tv) tv)) (An (fun (y13:decide (thrN t i=1)=true)=>(An (An (fun (y14:decide (thrN t i=1)=true)=>y13) (An (fun (y15:decide (thrN t i=1)=true)=>y13) tv)) (An (zr Try.prog) (o2 hpre y13)))) (An (fun (y16:decide (thrN t i=1)=true)=>(An (An (fun (y17:decide (thrN t i=1)=true)=>y16) (An (fun (y18:decide (thrN t i=1)=true)=>y16) tv)) tv)) (An (An (fun (y19:decide (thrN t i=1)=true)=>y19) (fun (y20:decide (thrN t i=1)=false)=>tv)) (Ak 1 tv))))))))))))) ?_
 refine swp_ret ?_
 exact zT [] (An (Ak 1 tv) (An (An (cb (o3 hpre)) (zr nilN)) (An (zr true) (An (zr true) (zr true)))))
theorem t49 (t:Twn) (i:Nat):Triple Try.prog 49 (s49 t i):=by
 apply w49
 all_goals (try delta q3l)
 case o3=>intro _; unfold freshT; rw [Bool.cond_false_right]
 all_goals (intro hp; obtain ⟨hH,hi⟩:=hp; obtain ⟨l1,l2,hT,hM⟩:=okH_iff.1 hH)
 case o2=>intro _; have:=pgN_lt (h:=t.house) (n:=t.house.things.length) (fun i hi=>by have:=(okT_facts (hT i hi)).1; omega) i hi; constructor <;> omega
 all_goals omega
theorem w15 (t:Twn) (i:Nat)
  (o0:okTwn t=true/\i < (Hs.things (Twn.house t)).length->fitsT t)
  (o1:okTwn t=true/\i < (Hs.things (Twn.house t)).length->isThing (Twn.house t) (i:Int)=true)
  (o2:okTwn t=true/\i < (Hs.things (Twn.house t)).length->okH (Twn.house t)=true) :
  Triple Try.prog 15 (s15 t i):=by
 refine triple_of Try.func15 rfl Try.call15 T0_ok _ rfl rfl rfl rfl (Nat.le_of_ble_eq_true (by kernel_rfl)) (fun _ _ _ _ h=>h) ?_
 intro hpre C hC _ hE
 obtain ⟨P,w0,E0,av,hA,ro,df⟩:=C
 obtain ⟨rfl,rfl,rfl⟩:=hC
 refine swp_seq ?_
 refine zR [1,2] [0] (Ak 3 tv) ?_
 refine swp_seq ?_
 refine zC ([(3,CallSpec.eq (s48 t (i:Int)) [true,true]),(4,CallSpec.eq (s47 t (isThing (Twn.house t) (i:Int))) [true,true])]) [1,6,7] [] (Ak 3 (An (An (An (zr (AV.agg (cTwn t))) (An (zr (iv (i:Int))) tv)) (An (t48 (t) ((i:Int))) (An (o0 hpre) (Ak 1 (fun (i0:Env)=>tv))))) (An (An (An (zr (AV.agg (cTwn t))) (An (zr (bv (isThing (Twn.house t) (i:Int)))) tv)) (An (t47 (t) (isThing (Twn.house t) (i:Int))) (An (An hpre.1 (o1 hpre)) (Ak 1 (fun (i1:Env)=>tv))))) (Ak 5 tv)))) ?_
 refine swp_seq ?_
 refine swp_seq ?_
 refine zR [1,6,7,17] [] (Ak 2 tv) ?_
 refine zf ?_
 refine swp_skip ?_
 refine swp_seq ?_
 refine zC ([(2,CallSpec.eq (s49 t i) [true,true])]) [4,5] [] (Ak 2 (An (An (An (zr (AV.rp (cKn t))) (An (zr (iv (i:Int))) tv)) (An (t49 (t) (i)) (An (An (o2 hpre) hpre.2) (Ak 1 (fun (i2:Env)=>tv))))) (Ak 2 tv))) ?_
 refine swp_ret ?_
 exact zT [] (An (Ak 2 tv) (An (An (An (zr (bv (freshT t i))) (zr nilN)) (An (An (zr (iv 0)) (zr nilN)) tv)) (An (zr true) (An (zr true) (zr true)))))
theorem t15 (t:Twn) (i:Nat):Triple Try.prog 15 (s15 t i):=by
 apply w15
 all_goals (first | ((repeat intro _) <;> (try simp only [Bool.cond_true_left,Bool.cond_false_right,Bool.not_not,Bool.not_eq_true',Bool.not_eq_false',Bool.or_eq_true,Bool.or_eq_false_iff,Bool.and_eq_true,decide_eq_true_eq,decide_eq_false_iff_not,inI,big] at *) <;> first | (exact rfl) | omega | (exact ⟨Nat.zero_le _,fun j hj=>absurd hj (Nat.not_lt_zero j)⟩) | (simp_all; done) | (simp_all; omega)) | skip)
 case o0=>intro hp; exact fitsT_ok hp.1
 case o1=>intro hp; exact isThing_iff.2 (by omega)
 case o2=>intro hp; exact (okTwn_iff.1 hp.1).1
end Go.Ab
namespace Go.Sh
open Go.Ab
def leftP (t:Twn) (b:Int) (i:Nat):Bool:=decide (thrN t i=1) && !decide (t.places.getD i 0=b)
def onP (t:Twn) (p i:Nat):Bool:=decide ((pgN t.house i:Int)=(p:Int))
def lfN (t:Twn) (b:Int) (p:Nat):Nat->Nat
 | 0=>0
 | n + 1=>if leftP t b n && onP t p n then lfN t b p n + 1 else lfN t b p n
def frN (t:Twn) (b:Int) (p:Nat):Nat->Nat
 | 0=>0
 | n + 1=>if leftP t b n && onP t p n && freshT t n then frN t b p n + 1 else frN t b p n
def isPg (t:Twn) (p:Nat):Bool:=decide ((p:Int) ∈ mkeys (pagesT t))
def lfT (t:Twn) (b:Int) (p:Nat):Nat:=lfN t b p t.house.things.length
def frT (t:Twn) (b:Int) (p:Nat):Nat:=frN t b p t.house.things.length
def lostB (t:Twn) (b:Int) (p:Nat):Bool:=isPg t p && decide (lfT t b p=0)
def staleB (t:Twn) (b:Int) (p:Nat):Bool:=isPg t p && !decide (lfT t b p=0) && decide (frT t b p=0)
def lostL (t:Twn) (b:Int):List Int:=thTo (lostB t b) t.house.things.length
def staleL (t:Twn) (b:Int):List Int:=thTo (staleB t b) t.house.things.length
def worseT (t:Twn) (w:Int × Int × Int) (b:Int):Bool:=decide (((lostL t b).length:Int) > w.2.1) || (decide (((lostL t b).length:Int)=w.2.1) && decide (((staleL t b).length:Int) > w.2.2))
def wstT (t:Twn):Nat->Int × Int × Int
 | 0=>(0,-1,0)
 | n + 1=>if worseT t (wstT t n) (n:Int) then ((n:Int),((lostL t (n:Int)).length:Int),((staleL t (n:Int)).length:Int)) else wstT t n
end Go.Sh
namespace Go.Ab
open Go Go.RowKit Go.Proofs Go.Sh Go.En
noncomputable def s86 (t:Twn) (b:Int):CallSpec:={ args:=[.rp (cKn t),iv b],res := .clo 120 [.rp [.rp (cKn t)],.rp [iv b]] }
def intB (n:Int):OB := .cells 3 [iv n]
noncomputable def knB (t:Twn):OB := .cells 91 [.rp (cKn t)]
noncomputable def s51 (t:Twn) (b:Int):CallSpec:={ args:=[.rp (cKn t),iv b],res := .tup [aInts (lostL t b),aInts (staleL t b)],pre:=okH t.house=true/\t.places.length=t.house.things.length }
def h51a (t:Twn) (b:Int):Hint:={ X:=Nat,M:=fun x=>[(18,iv x),(4,.vec 5000),(5,.vec 5001)],H:=fun x=>[(5000,rowI 3 (thTo (lostB t b) x)),(5001,rowI 3 (thTo (staleB t b) x))],I:=fun x=>x<=t.house.things.length,mu:=fun x=>t.house.things.length - x,x0:=(0:Nat),nx:=fun x=>x + 1 }
def h51b (t:Twn) (b:Int) (x:Nat):Hint:={ X:=Nat,M:=fun i=>[(11,iv i)],H:=fun i=>[(10208,intB (lfN t b x i)),(10216,intB (frN t b x i))],I:=fun i=>i<=t.house.things.length,mu:=fun i=>t.house.things.length - i,x0:=(0:Nat),nx:=fun i=>i + 1 }
noncomputable def r51 (t:Twn) (b:Int) (x:Nat):RangeH:={ J:=Nat,ok:=fun i=>i < t.house.things.length/\leftP t b i=true,Y:=fun i=>{ args:=[iv i,vKnd t i],hin:=[(0,knB t),(10088,intB x),(10208,intB (lfN t b x i)),(10216,intB (frN t b x i))],res:=bv true,hout:=[(0,knB t),(10088,intB x),(10208,intB (lfN t b x (i + 1))),(10216,intB (frN t b x (i + 1)))] },N:=30000,hp:=[(0,knB t),(5000,rowI 3 (thTo (lostB t b) x)),(5001,rowI 3 (thTo (staleB t b) x)),(10088,intB x),(10208,intB (lfT t b x)),(10216,intB (frT t b x))] }
noncomputable def y51 (t:Twn) (b:Int) (x i:Nat):CallSpec:=(r51 t b x).Y i
def p17 (t:Twn) (b:Int):Prop:=okTwn t=true/\0<=b/\b < t.rooms.length
def s17 (t:Twn) (b:Int):CallSpec:={ args:=[vTwn t,iv b],res := .tup [aInts (lostL t b),iv 0],pre:=p17 t b }
def s18 (t:Twn) (b:Int):CallSpec:={ args:=[vTwn t,iv b],res := .tup [aInts (staleL t b),iv 0],pre:=p17 t b }
def s40 (t:Twn):CallSpec:={ args:=[vTwn t],res := .tup [iv (wstT t t.rooms.length).1,iv 0],pre:=okTwn t=true }
def h40 (t:Twn):Hint:={ X:=Nat,M:=fun n=>[(24,iv n),(6,iv (wstT t n).1),(7,.ptr 5000 [])],H:=fun n=>[(5000,.cells 132 [.arr 1 2 (fun j=>[[iv (wstT t n).2.1,iv (wstT t n).2.2].getD j .any])])],I:=fun n=>n<=t.rooms.length,mu:=fun n=>t.rooms.length - n,x0:=(0:Nat),nx:=fun n=>n + 1 }
def s8:CallSpec:={ args:=[],res:=bv true }
def sw8 (g k:Hs) (t:Twn):CallSpec:={ args:=[],res:=bv true,pre:=(g=exH/\k=exG)/\t=exT }
def c8a (g k:Hs) (t:Twn):CallSpec:=s38o g k
def c8b (g k:Hs) (t:Twn):CallSpec:=s41o t
end Go.Ab
