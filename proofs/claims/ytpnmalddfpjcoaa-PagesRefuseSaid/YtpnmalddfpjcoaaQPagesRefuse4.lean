/- Part 4 of the proof: own library, plain forms and walks. -/
import Derived.Test.YtpnmalddfpjcoaaQPagesRefuse3
set_option linter.all false
set_option linter.deprecated false
namespace Go.Ab
open Go Go.RowKit Go.Proofs Go.Sh Go.En
theorem w149 (f:Frm) (left:List Int)
  (o0:AV.rp [AV.sl 1 left.length fun (i:Nat)=>[iv (left.getD i 0)]]=AV.rp [aInts left]) :
  Triple Try.prog 149 (s149 f left):=by
 refine triple_of Try.func149 rfl Try.call149 T0_ok _ rfl rfl rfl rfl (Nat.le_of_ble_eq_true (by kernel_rfl)) (fun _ _ _ _ h=>h) ?_
 intro _ C hC _ hE
 obtain ⟨P,w0,E0,av,hA,ro,df⟩:=C
 obtain ⟨rfl,rfl,rfl⟩:=hC
 refine swp_seq ?_
 refine zC ([(1,focB)]) [3] [] (Ak 3 tv) ?_
 refine swp_seq ?_
 refine zR [4] [] (Ak 2 tv) ?_
 refine swp_ret ?_
 exact zT [] (An (Ak 1 tv) (An (An (zr 159) (An (An (o0) (zr nilN)) tv)) (An (zr true) (An (zr true) (zr true)))))
theorem t149 (f:Frm) (left:List Int):Triple Try.prog 149 (s149 f left):=by
 apply w149
 all_goals (try ((repeat intro _) <;> (try simp only [Bool.cond_true_left,Bool.cond_false_right,Bool.not_not,Bool.not_eq_true',Bool.not_eq_false',Bool.or_eq_true,Bool.or_eq_false_iff,Bool.and_eq_true,decide_eq_true_eq,decide_eq_false_iff_not,inI,big,fitsF,smallF,goodL] at *) <;> first | (exact rfl) | omega | (exact ⟨Nat.zero_le _,fun j hj=>absurd hj (Nat.not_lt_zero j)⟩) | (simp_all; done) | (simp_all; omega)))
theorem w128 (f:Frm) (rooms:List Span) (left:List Int)
  (o0:Sound f/\GoodLeft f left/\rooms.length<=3->decide ((↑(rooms.length):Int)=0)=true->Option.isSome (lockP f rooms left)=true)
  (o1:Sound f/\GoodLeft f left/\rooms.length<=3->decide ((↑(rooms.length):Int)=0)=true->(layS (lockP f rooms left)).length=0)
  (o2:Sound f/\GoodLeft f left/\rooms.length<=3->decide ((↑(rooms.length):Int)=0)=true->0=layM (lockP f rooms left))
  (o3:Sound f/\GoodLeft f left/\rooms.length<=3->decide ((↑(rooms.length):Int)=0)=false->0<=(↑(left.length):Int))
  (o4:Sound f/\GoodLeft f left/\rooms.length<=3->decide ((↑(rooms.length):Int)=0)=false->(↑(left.length):Int)<=65536)
  (o5:Sound f/\GoodLeft f left/\rooms.length<=3->decide ((↑(rooms.length):Int)=0)=false->Option.isSome (bestP f rooms left 0)=false)
  (o6:Sound f/\GoodLeft f left/\rooms.length<=3->decide ((↑(rooms.length):Int)=0)=false->left.length=(setN left 0).length)
  (o7:Sound f/\GoodLeft f left/\rooms.length<=3->decide ((↑(rooms.length):Int)=0)=false -> ∀ (i4:Nat),i4 < left.length -> [iv 0] = [iv ((setN left 0).getD i4 0)])
  (o8:Sound f/\GoodLeft f left/\rooms.length<=3->decide ((↑(rooms.length):Int)=0)=false->0 < prodL left)
  (o9:Sound f/\GoodLeft f left/\rooms.length<=3->decide ((↑(rooms.length):Int)=0)=false -> ∀ (x3:Nat),x3 < prodL left->inI ((↑((setN left x3).length):Int) - 1))
  (o10:Sound f/\GoodLeft f left/\rooms.length<=3->decide ((↑(rooms.length):Int)=0)=false -> ∀ (x3:Nat),x3 < prodL left->(↑((setN left x3).length):Int) - 1=(↑(left.length):Int) - 1 - (↑0:Int))
  (o11:Sound f/\GoodLeft f left/\rooms.length<=3->decide ((↑(rooms.length):Int)=0)=false -> ∀ (x3:Nat),x3 < prodL left->(setN left x3).length=left.length)
  (o12:Sound f/\GoodLeft f left/\rooms.length<=3->decide ((↑(rooms.length):Int)=0)=false -> ∀ (x3:Nat),x3 < prodL left -> ∀ (i7:Nat),i7 < (setN left x3).length -> [iv ((setN left x3).getD i7 0)] = [iv (rowO left x3 ((↑(left.length):Int) - 1 - (↑0:Int)) i7)])
  (o13:Sound f/\GoodLeft f left/\rooms.length<=3->decide ((↑(rooms.length):Int)=0)=false -> ∀ (x3:Nat),x3 < prodL left->0<=left.length /\ ∀ (q:Nat),left.length - 0<=q->q < left.length->(setN left x3).getD q 0=left.getD q 0)
  (o14:Sound f/\GoodLeft f left/\rooms.length<=3->decide ((↑(rooms.length):Int)=0)=false -> ∀ (x3:Nat),x3 < prodL left -> ∀ (x6:Nat),(x6<=left.length /\ ∀ (q:Nat),left.length - x6<=q->q < left.length->(setN left x3).getD q 0=left.getD q 0)->decide (0<=(↑(left.length):Int) - 1 - (x6:Int))=true->0<=(↑(left.length):Int) - 1 - (x6:Int))
  (o15:Sound f/\GoodLeft f left/\rooms.length<=3->decide ((↑(rooms.length):Int)=0)=false -> ∀ (x3:Nat),x3 < prodL left -> ∀ (x6:Nat),(x6<=left.length /\ ∀ (q:Nat),left.length - x6<=q->q < left.length->(setN left x3).getD q 0=left.getD q 0)->decide (0<=(↑(left.length):Int) - 1 - (x6:Int))=true->(↑(left.length):Int) - 1 - (x6:Int) < (↑(left.length):Int))
  (o16:Sound f/\GoodLeft f left/\rooms.length<=3->decide ((↑(rooms.length):Int)=0)=false -> ∀ (x3:Nat),x3 < prodL left -> ∀ (x6:Nat),(x6<=left.length /\ ∀ (q:Nat),left.length - x6<=q->q < left.length->(setN left x3).getD q 0=left.getD q 0)->decide (0<=(↑(left.length):Int) - 1 - (x6:Int))=true->((↑(left.length):Int) - 1 - (x6:Int)).toNat < left.length)
  (o17:Sound f/\GoodLeft f left/\rooms.length<=3->decide ((↑(rooms.length):Int)=0)=false -> ∀ (x3:Nat),x3 < prodL left -> ∀ (x6:Nat),(x6<=left.length /\ ∀ (q:Nat),left.length - x6<=q->q < left.length->(setN left x3).getD q 0=left.getD q 0)->decide (0<=(↑(left.length):Int) - 1 - (x6:Int))=true->0<=(↑(left.length):Int) - 1 - (x6:Int))
  (o18:Sound f/\GoodLeft f left/\rooms.length<=3->decide ((↑(rooms.length):Int)=0)=false -> ∀ (x3:Nat),x3 < prodL left -> ∀ (x6:Nat),(x6<=left.length /\ ∀ (q:Nat),left.length - x6<=q->q < left.length->(setN left x3).getD q 0=left.getD q 0)->decide (0<=(↑(left.length):Int) - 1 - (x6:Int))=true->(↑(left.length):Int) - 1 - (x6:Int) < (↑(left.length):Int))
  (o19:Sound f/\GoodLeft f left/\rooms.length<=3->decide ((↑(rooms.length):Int)=0)=false -> ∀ (x3:Nat),x3 < prodL left -> ∀ (x6:Nat),(x6<=left.length /\ ∀ (q:Nat),left.length - x6<=q->q < left.length->(setN left x3).getD q 0=left.getD q 0)->(bif decide (0<=(↑(left.length):Int) - 1 - (x6:Int)) then decide (rowO left x3 ((↑(left.length):Int) - 1 - (x6:Int)) ((↑(left.length):Int) - 1 - (x6:Int)).toNat=left.getD ((↑(left.length):Int) - 1 - (x6:Int)).toNat 0) else false)=true->0<=(↑(left.length):Int) - 1 - (x6:Int))
  (o20:Sound f/\GoodLeft f left/\rooms.length<=3->decide ((↑(rooms.length):Int)=0)=false -> ∀ (x3:Nat),x3 < prodL left -> ∀ (x6:Nat),(x6<=left.length /\ ∀ (q:Nat),left.length - x6<=q->q < left.length->(setN left x3).getD q 0=left.getD q 0)->(bif decide (0<=(↑(left.length):Int) - 1 - (x6:Int)) then decide (rowO left x3 ((↑(left.length):Int) - 1 - (x6:Int)) ((↑(left.length):Int) - 1 - (x6:Int)).toNat=left.getD ((↑(left.length):Int) - 1 - (x6:Int)).toNat 0) else false)=true->(↑(left.length):Int) - 1 - (x6:Int) < (↑(left.length):Int))
  (o21:Sound f/\GoodLeft f left/\rooms.length<=3->decide ((↑(rooms.length):Int)=0)=false -> ∀ (x3:Nat),x3 < prodL left -> ∀ (x6:Nat),(x6<=left.length /\ ∀ (q:Nat),left.length - x6<=q->q < left.length->(setN left x3).getD q 0=left.getD q 0)->(bif decide (0<=(↑(left.length):Int) - 1 - (x6:Int)) then decide (rowO left x3 ((↑(left.length):Int) - 1 - (x6:Int)) ((↑(left.length):Int) - 1 - (x6:Int)).toNat=left.getD ((↑(left.length):Int) - 1 - (x6:Int)).toNat 0) else false)=true->((↑(left.length):Int) - 1 - (x6:Int)).toNat < left.length)
  (o22:Sound f/\GoodLeft f left/\rooms.length<=3->decide ((↑(rooms.length):Int)=0)=false -> ∀ (x3:Nat),x3 < prodL left -> ∀ (x6:Nat),(x6<=left.length /\ ∀ (q:Nat),left.length - x6<=q->q < left.length->(setN left x3).getD q 0=left.getD q 0)->(bif decide (0<=(↑(left.length):Int) - 1 - (x6:Int)) then decide (rowO left x3 ((↑(left.length):Int) - 1 - (x6:Int)) ((↑(left.length):Int) - 1 - (x6:Int)).toNat=left.getD ((↑(left.length):Int) - 1 - (x6:Int)).toNat 0) else false)=true->inI ((↑(left.length):Int) - 1 - (x6:Int) - 1))
  (o23:Sound f/\GoodLeft f left/\rooms.length<=3->decide ((↑(rooms.length):Int)=0)=false -> ∀ (x3:Nat),x3 < prodL left -> ∀ (x6:Nat),(x6<=left.length /\ ∀ (q:Nat),left.length - x6<=q->q < left.length->(setN left x3).getD q 0=left.getD q 0)->(bif decide (0<=(↑(left.length):Int) - 1 - (x6:Int)) then decide (rowO left x3 ((↑(left.length):Int) - 1 - (x6:Int)) ((↑(left.length):Int) - 1 - (x6:Int)).toNat=left.getD ((↑(left.length):Int) - 1 - (x6:Int)).toNat 0) else false)=true->(↑(left.length):Int) - 1 - (x6:Int) - 1=(↑(left.length):Int) - 1 - (↑(x6 + 1):Int))
  (o24:Sound f/\GoodLeft f left/\rooms.length<=3->decide ((↑(rooms.length):Int)=0)=false -> ∀ (x3:Nat),x3 < prodL left -> ∀ (x6:Nat),(x6<=left.length /\ ∀ (q:Nat),left.length - x6<=q->q < left.length->(setN left x3).getD q 0=left.getD q 0)->(bif decide (0<=(↑(left.length):Int) - 1 - (x6:Int)) then decide (rowO left x3 ((↑(left.length):Int) - 1 - (x6:Int)) ((↑(left.length):Int) - 1 - (x6:Int)).toNat=left.getD ((↑(left.length):Int) - 1 - (x6:Int)).toNat 0) else false)=true -> ∀ (i29:Nat),i29 < left.length->Decidable.rec (fun (h:¬i29=((↑(left.length):Int) - 1 - (x6:Int)).toNat)=>[iv (rowO left x3 ((↑(left.length):Int) - 1 - (x6:Int)) i29)]) (fun (h:i29=((↑(left.length):Int) - 1 - (x6:Int)).toNat)=>[iv 0] ++ []) (instDecidableEqNat i29 ((↑(left.length):Int) - 1 - (x6:Int)).toNat) = [iv (rowO left x3 ((↑(left.length):Int) - 1 - (↑(x6 + 1):Int)) i29)])
  (o25:Sound f/\GoodLeft f left/\rooms.length<=3->decide ((↑(rooms.length):Int)=0)=false -> ∀ (x3:Nat),x3 < prodL left -> ∀ (x6:Nat),(x6<=left.length /\ ∀ (q:Nat),left.length - x6<=q->q < left.length->(setN left x3).getD q 0=left.getD q 0)->(bif decide (0<=(↑(left.length):Int) - 1 - (x6:Int)) then decide (rowO left x3 ((↑(left.length):Int) - 1 - (x6:Int)) ((↑(left.length):Int) - 1 - (x6:Int)).toNat=left.getD ((↑(left.length):Int) - 1 - (x6:Int)).toNat 0) else false)=true->x6 + 1<=left.length /\ ∀ (q:Nat),left.length - (x6 + 1)<=q->q < left.length->(setN left x3).getD q 0=left.getD q 0)
  (o26:Sound f/\GoodLeft f left/\rooms.length<=3->decide ((↑(rooms.length):Int)=0)=false -> ∀ (x3:Nat),x3 < prodL left -> ∀ (x6:Nat),(x6<=left.length /\ ∀ (q:Nat),left.length - x6<=q->q < left.length->(setN left x3).getD q 0=left.getD q 0)->(bif decide (0<=(↑(left.length):Int) - 1 - (x6:Int)) then decide (rowO left x3 ((↑(left.length):Int) - 1 - (x6:Int)) ((↑(left.length):Int) - 1 - (x6:Int)).toNat=left.getD ((↑(left.length):Int) - 1 - (x6:Int)).toNat 0) else false)=true->left.length - (x6 + 1) < left.length - x6)
  (o27:Sound f/\GoodLeft f left/\rooms.length<=3->decide ((↑(rooms.length):Int)=0)=false -> ∀ (x3:Nat),x3 < prodL left -> ∀ (x6:Nat),(x6<=left.length /\ ∀ (q:Nat),left.length - x6<=q->q < left.length->(setN left x3).getD q 0=left.getD q 0)->(bif decide (0<=(↑(left.length):Int) - 1 - (x6:Int)) then decide (rowO left x3 ((↑(left.length):Int) - 1 - (x6:Int)) ((↑(left.length):Int) - 1 - (x6:Int)).toNat=left.getD ((↑(left.length):Int) - 1 - (x6:Int)).toNat 0) else false)=false->decide ((↑(left.length):Int) - 1 - (x6:Int) < 0)=true->Option.isSome (bestP f rooms left (x3 + 1))=Option.isSome (bestP f rooms left (prodL left)))
  (o28:Sound f/\GoodLeft f left/\rooms.length<=3->decide ((↑(rooms.length):Int)=0)=false -> ∀ (x3:Nat),x3 < prodL left -> ∀ (x6:Nat),(x6<=left.length /\ ∀ (q:Nat),left.length - x6<=q->q < left.length->(setN left x3).getD q 0=left.getD q 0)->(bif decide (0<=(↑(left.length):Int) - 1 - (x6:Int)) then decide (rowO left x3 ((↑(left.length):Int) - 1 - (x6:Int)) ((↑(left.length):Int) - 1 - (x6:Int)).toNat=left.getD ((↑(left.length):Int) - 1 - (x6:Int)).toNat 0) else false)=false->decide ((↑(left.length):Int) - 1 - (x6:Int) < 0)=true->Option.isSome (bestP f rooms left (prodL left))=true->(layS (bestP f rooms left (x3 + 1))).length=(layS (bestP f rooms left (prodL left))).length)
  (o29:Sound f/\GoodLeft f left/\rooms.length<=3->decide ((↑(rooms.length):Int)=0)=false -> ∀ (x3:Nat),x3 < prodL left -> ∀ (x6:Nat),(x6<=left.length /\ ∀ (q:Nat),left.length - x6<=q->q < left.length->(setN left x3).getD q 0=left.getD q 0)->(bif decide (0<=(↑(left.length):Int) - 1 - (x6:Int)) then decide (rowO left x3 ((↑(left.length):Int) - 1 - (x6:Int)) ((↑(left.length):Int) - 1 - (x6:Int)).toNat=left.getD ((↑(left.length):Int) - 1 - (x6:Int)).toNat 0) else false)=false->decide ((↑(left.length):Int) - 1 - (x6:Int) < 0)=true->Option.isSome (bestP f rooms left (prodL left))=true -> ∀ (i33:Nat),i33 < (layS (bestP f rooms left (prodL left))).length -> [aInts ((layS (bestP f rooms left (x3 + 1))).getD i33 [])] = [aInts ((layS (bestP f rooms left (prodL left))).getD i33 [])])
  (o30:Sound f/\GoodLeft f left/\rooms.length<=3->decide ((↑(rooms.length):Int)=0)=false -> ∀ (x3:Nat),x3 < prodL left -> ∀ (x6:Nat),(x6<=left.length /\ ∀ (q:Nat),left.length - x6<=q->q < left.length->(setN left x3).getD q 0=left.getD q 0)->(bif decide (0<=(↑(left.length):Int) - 1 - (x6:Int)) then decide (rowO left x3 ((↑(left.length):Int) - 1 - (x6:Int)) ((↑(left.length):Int) - 1 - (x6:Int)).toNat=left.getD ((↑(left.length):Int) - 1 - (x6:Int)).toNat 0) else false)=false->decide ((↑(left.length):Int) - 1 - (x6:Int) < 0)=true->Option.isSome (bestP f rooms left (prodL left))=true->layM (bestP f rooms left (x3 + 1))=layM (bestP f rooms left (prodL left)))
  (o31:Sound f/\GoodLeft f left/\rooms.length<=3->decide ((↑(rooms.length):Int)=0)=false -> ∀ (x3:Nat),x3 < prodL left -> ∀ (x6:Nat),(x6<=left.length /\ ∀ (q:Nat),left.length - x6<=q->q < left.length->(setN left x3).getD q 0=left.getD q 0)->(bif decide (0<=(↑(left.length):Int) - 1 - (x6:Int)) then decide (rowO left x3 ((↑(left.length):Int) - 1 - (x6:Int)) ((↑(left.length):Int) - 1 - (x6:Int)).toNat=left.getD ((↑(left.length):Int) - 1 - (x6:Int)).toNat 0) else false)=false->decide ((↑(left.length):Int) - 1 - (x6:Int) < 0)=false->0<=(↑(left.length):Int) - 1 - (x6:Int))
  (o32:Sound f/\GoodLeft f left/\rooms.length<=3->decide ((↑(rooms.length):Int)=0)=false -> ∀ (x3:Nat),x3 < prodL left -> ∀ (x6:Nat),(x6<=left.length /\ ∀ (q:Nat),left.length - x6<=q->q < left.length->(setN left x3).getD q 0=left.getD q 0)->(bif decide (0<=(↑(left.length):Int) - 1 - (x6:Int)) then decide (rowO left x3 ((↑(left.length):Int) - 1 - (x6:Int)) ((↑(left.length):Int) - 1 - (x6:Int)).toNat=left.getD ((↑(left.length):Int) - 1 - (x6:Int)).toNat 0) else false)=false->decide ((↑(left.length):Int) - 1 - (x6:Int) < 0)=false->(↑(left.length):Int) - 1 - (x6:Int) < (↑(left.length):Int))
  (o33:Sound f/\GoodLeft f left/\rooms.length<=3->decide ((↑(rooms.length):Int)=0)=false -> ∀ (x3:Nat),x3 < prodL left -> ∀ (x6:Nat),(x6<=left.length /\ ∀ (q:Nat),left.length - x6<=q->q < left.length->(setN left x3).getD q 0=left.getD q 0)->(bif decide (0<=(↑(left.length):Int) - 1 - (x6:Int)) then decide (rowO left x3 ((↑(left.length):Int) - 1 - (x6:Int)) ((↑(left.length):Int) - 1 - (x6:Int)).toNat=left.getD ((↑(left.length):Int) - 1 - (x6:Int)).toNat 0) else false)=false->decide ((↑(left.length):Int) - 1 - (x6:Int) < 0)=false->((↑(left.length):Int) - 1 - (x6:Int)).toNat < left.length)
  (o34:Sound f/\GoodLeft f left/\rooms.length<=3->decide ((↑(rooms.length):Int)=0)=false -> ∀ (x3:Nat),x3 < prodL left -> ∀ (x6:Nat),(x6<=left.length /\ ∀ (q:Nat),left.length - x6<=q->q < left.length->(setN left x3).getD q 0=left.getD q 0)->(bif decide (0<=(↑(left.length):Int) - 1 - (x6:Int)) then decide (rowO left x3 ((↑(left.length):Int) - 1 - (x6:Int)) ((↑(left.length):Int) - 1 - (x6:Int)).toNat=left.getD ((↑(left.length):Int) - 1 - (x6:Int)).toNat 0) else false)=false->decide ((↑(left.length):Int) - 1 - (x6:Int) < 0)=false->inI (rowO left x3 ((↑(left.length):Int) - 1 - (x6:Int)) ((↑(left.length):Int) - 1 - (x6:Int)).toNat + 1))
  (o35:Sound f/\GoodLeft f left/\rooms.length<=3->decide ((↑(rooms.length):Int)=0)=false -> ∀ (x3:Nat),x3 < prodL left -> ∀ (x6:Nat),(x6<=left.length /\ ∀ (q:Nat),left.length - x6<=q->q < left.length->(setN left x3).getD q 0=left.getD q 0)->(bif decide (0<=(↑(left.length):Int) - 1 - (x6:Int)) then decide (rowO left x3 ((↑(left.length):Int) - 1 - (x6:Int)) ((↑(left.length):Int) - 1 - (x6:Int)).toNat=left.getD ((↑(left.length):Int) - 1 - (x6:Int)).toNat 0) else false)=false->decide ((↑(left.length):Int) - 1 - (x6:Int) < 0)=false->0<=(↑(left.length):Int) - 1 - (x6:Int))
  (o36:Sound f/\GoodLeft f left/\rooms.length<=3->decide ((↑(rooms.length):Int)=0)=false -> ∀ (x3:Nat),x3 < prodL left -> ∀ (x6:Nat),(x6<=left.length /\ ∀ (q:Nat),left.length - x6<=q->q < left.length->(setN left x3).getD q 0=left.getD q 0)->(bif decide (0<=(↑(left.length):Int) - 1 - (x6:Int)) then decide (rowO left x3 ((↑(left.length):Int) - 1 - (x6:Int)) ((↑(left.length):Int) - 1 - (x6:Int)).toNat=left.getD ((↑(left.length):Int) - 1 - (x6:Int)).toNat 0) else false)=false->decide ((↑(left.length):Int) - 1 - (x6:Int) < 0)=false->(↑(left.length):Int) - 1 - (x6:Int) < (↑(left.length):Int))
  (o37:Sound f/\GoodLeft f left/\rooms.length<=3->decide ((↑(rooms.length):Int)=0)=false -> ∀ (x3:Nat),x3 < prodL left -> ∀ (x6:Nat),(x6<=left.length /\ ∀ (q:Nat),left.length - x6<=q->q < left.length->(setN left x3).getD q 0=left.getD q 0)->(bif decide (0<=(↑(left.length):Int) - 1 - (x6:Int)) then decide (rowO left x3 ((↑(left.length):Int) - 1 - (x6:Int)) ((↑(left.length):Int) - 1 - (x6:Int)).toNat=left.getD ((↑(left.length):Int) - 1 - (x6:Int)).toNat 0) else false)=false->decide ((↑(left.length):Int) - 1 - (x6:Int) < 0)=false->((↑(left.length):Int) - 1 - (x6:Int)).toNat < left.length)
  (o38:Sound f/\GoodLeft f left/\rooms.length<=3->decide ((↑(rooms.length):Int)=0)=false -> ∀ (x3:Nat),x3 < prodL left -> ∀ (x6:Nat),(x6<=left.length /\ ∀ (q:Nat),left.length - x6<=q->q < left.length->(setN left x3).getD q 0=left.getD q 0)->(bif decide (0<=(↑(left.length):Int) - 1 - (x6:Int)) then decide (rowO left x3 ((↑(left.length):Int) - 1 - (x6:Int)) ((↑(left.length):Int) - 1 - (x6:Int)).toNat=left.getD ((↑(left.length):Int) - 1 - (x6:Int)).toNat 0) else false)=false->decide ((↑(left.length):Int) - 1 - (x6:Int) < 0)=false->left.length=(setN left (x3 + 1)).length)
  (o39:Sound f/\GoodLeft f left/\rooms.length<=3->decide ((↑(rooms.length):Int)=0)=false -> ∀ (x3:Nat),x3 < prodL left -> ∀ (x6:Nat),(x6<=left.length /\ ∀ (q:Nat),left.length - x6<=q->q < left.length->(setN left x3).getD q 0=left.getD q 0)->(bif decide (0<=(↑(left.length):Int) - 1 - (x6:Int)) then decide (rowO left x3 ((↑(left.length):Int) - 1 - (x6:Int)) ((↑(left.length):Int) - 1 - (x6:Int)).toNat=left.getD ((↑(left.length):Int) - 1 - (x6:Int)).toNat 0) else false)=false->decide ((↑(left.length):Int) - 1 - (x6:Int) < 0)=false -> ∀ (i35:Nat),i35 < left.length->Decidable.rec (fun (h:¬i35=((↑(left.length):Int) - 1 - (x6:Int)).toNat)=>[iv (rowO left x3 ((↑(left.length):Int) - 1 - (x6:Int)) i35)]) (fun (h:i35=((↑(left.length):Int) - 1 - (x6:Int)).toNat)=>[iv (rowO left x3 ((↑(left.length):Int) - 1 - (x6:Int)) ((↑(left.length):Int) - 1 - (x6:Int)).toNat + 1)] ++ []) (instDecidableEqNat i35 ((↑(left.length):Int) - 1 - (x6:Int)).toNat) = [iv ((setN left (x3 + 1)).getD i35 0)])
  (o40:Sound f/\GoodLeft f left/\rooms.length<=3->decide ((↑(rooms.length):Int)=0)=false -> ∀ (x3:Nat),x3 < prodL left -> ∀ (x6:Nat),(x6<=left.length /\ ∀ (q:Nat),left.length - x6<=q->q < left.length->(setN left x3).getD q 0=left.getD q 0)->(bif decide (0<=(↑(left.length):Int) - 1 - (x6:Int)) then decide (rowO left x3 ((↑(left.length):Int) - 1 - (x6:Int)) ((↑(left.length):Int) - 1 - (x6:Int)).toNat=left.getD ((↑(left.length):Int) - 1 - (x6:Int)).toNat 0) else false)=false->decide ((↑(left.length):Int) - 1 - (x6:Int) < 0)=false->x3 + 1 < prodL left)
  (o41:Sound f/\GoodLeft f left/\rooms.length<=3->decide ((↑(rooms.length):Int)=0)=false -> ∀ (x3:Nat),x3 < prodL left -> ∀ (x6:Nat),(x6<=left.length /\ ∀ (q:Nat),left.length - x6<=q->q < left.length->(setN left x3).getD q 0=left.getD q 0)->(bif decide (0<=(↑(left.length):Int) - 1 - (x6:Int)) then decide (rowO left x3 ((↑(left.length):Int) - 1 - (x6:Int)) ((↑(left.length):Int) - 1 - (x6:Int)).toNat=left.getD ((↑(left.length):Int) - 1 - (x6:Int)).toNat 0) else false)=false->decide ((↑(left.length):Int) - 1 - (x6:Int) < 0)=false->prodL left - (x3 + 1) < prodL left - x3)
  (o42:Sound f/\GoodLeft f left/\rooms.length<=3->decide ((↑(rooms.length):Int)=0)=false -> ∀ (j2:Nat),j2 < prodL left->True->isSet f (setN left j2)=true)
  (o43:Sound f/\GoodLeft f left/\rooms.length<=3->decide ((↑(rooms.length):Int)=0)=false -> ∀ (j2:Nat),j2 < prodL left->True->0 < (↑(rooms.length):Int))
  (o44:Sound f/\GoodLeft f left/\rooms.length<=3->decide ((↑(rooms.length):Int)=0)=false -> ∀ (j2:Nat),j2 < prodL left->True->0 < (↑(rooms.length):Int))
  (o45:Sound f/\GoodLeft f left/\rooms.length<=3->decide ((↑(rooms.length):Int)=0)=false -> ∀ (j2:Nat),j2 < prodL left->True->(!within (pointsP f (setN left j2)) (rooms.getD 0 (Span.mk 0 0)).lo (rooms.getD 0 (Span.mk 0 0)).hi)=true->Option.isSome (bestP f rooms left j2)=Option.isSome (bestP f rooms left (j2 + 1)))
  (o46:Sound f/\GoodLeft f left/\rooms.length<=3->decide ((↑(rooms.length):Int)=0)=false -> ∀ (j2:Nat),j2 < prodL left->True->(!within (pointsP f (setN left j2)) (rooms.getD 0 (Span.mk 0 0)).lo (rooms.getD 0 (Span.mk 0 0)).hi)=true->Option.isSome (bestP f rooms left (j2 + 1))=true->(layS (bestP f rooms left j2)).length=(layS (bestP f rooms left (j2 + 1))).length)
  (o47:Sound f/\GoodLeft f left/\rooms.length<=3->decide ((↑(rooms.length):Int)=0)=false -> ∀ (j2:Nat),j2 < prodL left->True->(!within (pointsP f (setN left j2)) (rooms.getD 0 (Span.mk 0 0)).lo (rooms.getD 0 (Span.mk 0 0)).hi)=true->Option.isSome (bestP f rooms left (j2 + 1))=true -> ∀ (i41:Nat),i41 < (layS (bestP f rooms left (j2 + 1))).length -> [aInts ((layS (bestP f rooms left j2)).getD i41 [])] = [aInts ((layS (bestP f rooms left (j2 + 1))).getD i41 [])])
  (o48:Sound f/\GoodLeft f left/\rooms.length<=3->decide ((↑(rooms.length):Int)=0)=false -> ∀ (j2:Nat),j2 < prodL left->True->(!within (pointsP f (setN left j2)) (rooms.getD 0 (Span.mk 0 0)).lo (rooms.getD 0 (Span.mk 0 0)).hi)=true->Option.isSome (bestP f rooms left (j2 + 1))=true->layM (bestP f rooms left j2)=layM (bestP f rooms left (j2 + 1)))
  (o49:Sound f/\GoodLeft f left/\rooms.length<=3->decide ((↑(rooms.length):Int)=0)=false -> ∀ (j2:Nat),j2 < prodL left->True->(!within (pointsP f (setN left j2)) (rooms.getD 0 (Span.mk 0 0)).lo (rooms.getD 0 (Span.mk 0 0)).hi)=false->left.length<=60000)
  (o50:Sound f/\GoodLeft f left/\rooms.length<=3->decide ((↑(rooms.length):Int)=0)=false -> ∀ (j2:Nat),j2 < prodL left->True->(!within (pointsP f (setN left j2)) (rooms.getD 0 (Span.mk 0 0)).lo (rooms.getD 0 (Span.mk 0 0)).hi)=false->0=sumTo (setN left j2) 0)
  (o51:Sound f/\GoodLeft f left/\rooms.length<=3->decide ((↑(rooms.length):Int)=0)=false -> ∀ (j2:Nat),j2 < prodL left->True->(!within (pointsP f (setN left j2)) (rooms.getD 0 (Span.mk 0 0)).lo (rooms.getD 0 (Span.mk 0 0)).hi)=false->0=(↑0:Int))
  (o52:Sound f/\GoodLeft f left/\rooms.length<=3->decide ((↑(rooms.length):Int)=0)=false -> ∀ (j2:Nat),j2 < prodL left->True->(!within (pointsP f (setN left j2)) (rooms.getD 0 (Span.mk 0 0)).lo (rooms.getD 0 (Span.mk 0 0)).hi)=false -> ∀ (i45:Nat),i45 < left.length -> [iv (left.getD i45 0)] = [iv (restQ left (setN left j2) 0 i45)])
  (o53:Sound f/\GoodLeft f left/\rooms.length<=3->decide ((↑(rooms.length):Int)=0)=false -> ∀ (j2:Nat),j2 < prodL left->True->(!within (pointsP f (setN left j2)) (rooms.getD 0 (Span.mk 0 0)).lo (rooms.getD 0 (Span.mk 0 0)).hi)=false->0<=left.length)
  (o54:Sound f/\GoodLeft f left/\rooms.length<=3->decide ((↑(rooms.length):Int)=0)=false -> ∀ (j2:Nat),j2 < prodL left->True->(!within (pointsP f (setN left j2)) (rooms.getD 0 (Span.mk 0 0)).lo (rooms.getD 0 (Span.mk 0 0)).hi)=false -> ∀ (x44:Nat),x44<=left.length->decide ((x44:Int) < (↑((setN left j2).length):Int))=true->0<=(x44:Int))
  (o55:Sound f/\GoodLeft f left/\rooms.length<=3->decide ((↑(rooms.length):Int)=0)=false -> ∀ (j2:Nat),j2 < prodL left->True->(!within (pointsP f (setN left j2)) (rooms.getD 0 (Span.mk 0 0)).lo (rooms.getD 0 (Span.mk 0 0)).hi)=false -> ∀ (x44:Nat),x44<=left.length->decide ((x44:Int) < (↑((setN left j2).length):Int))=true->(x44:Int) < (↑((setN left j2).length):Int))
  (o56:Sound f/\GoodLeft f left/\rooms.length<=3->decide ((↑(rooms.length):Int)=0)=false -> ∀ (j2:Nat),j2 < prodL left->True->(!within (pointsP f (setN left j2)) (rooms.getD 0 (Span.mk 0 0)).lo (rooms.getD 0 (Span.mk 0 0)).hi)=false -> ∀ (x44:Nat),x44<=left.length->decide ((x44:Int) < (↑((setN left j2).length):Int))=true->x44 < (setN left j2).length)
  (o57:Sound f/\GoodLeft f left/\rooms.length<=3->decide ((↑(rooms.length):Int)=0)=false -> ∀ (j2:Nat),j2 < prodL left->True->(!within (pointsP f (setN left j2)) (rooms.getD 0 (Span.mk 0 0)).lo (rooms.getD 0 (Span.mk 0 0)).hi)=false -> ∀ (x44:Nat),x44<=left.length->decide ((x44:Int) < (↑((setN left j2).length):Int))=true->0<=(x44:Int))
  (o58:Sound f/\GoodLeft f left/\rooms.length<=3->decide ((↑(rooms.length):Int)=0)=false -> ∀ (j2:Nat),j2 < prodL left->True->(!within (pointsP f (setN left j2)) (rooms.getD 0 (Span.mk 0 0)).lo (rooms.getD 0 (Span.mk 0 0)).hi)=false -> ∀ (x44:Nat),x44<=left.length->decide ((x44:Int) < (↑((setN left j2).length):Int))=true->(x44:Int) < (↑(left.length):Int))
  (o59:Sound f/\GoodLeft f left/\rooms.length<=3->decide ((↑(rooms.length):Int)=0)=false -> ∀ (j2:Nat),j2 < prodL left->True->(!within (pointsP f (setN left j2)) (rooms.getD 0 (Span.mk 0 0)).lo (rooms.getD 0 (Span.mk 0 0)).hi)=false -> ∀ (x44:Nat),x44<=left.length->decide ((x44:Int) < (↑((setN left j2).length):Int))=true->x44 < left.length)
  (o60:Sound f/\GoodLeft f left/\rooms.length<=3->decide ((↑(rooms.length):Int)=0)=false -> ∀ (j2:Nat),j2 < prodL left->True->(!within (pointsP f (setN left j2)) (rooms.getD 0 (Span.mk 0 0)).lo (rooms.getD 0 (Span.mk 0 0)).hi)=false -> ∀ (x44:Nat),x44<=left.length->decide ((x44:Int) < (↑((setN left j2).length):Int))=true->inI (restQ left (setN left j2) x44 x44 - (setN left j2).getD x44 0))
  (o61:Sound f/\GoodLeft f left/\rooms.length<=3->decide ((↑(rooms.length):Int)=0)=false -> ∀ (j2:Nat),j2 < prodL left->True->(!within (pointsP f (setN left j2)) (rooms.getD 0 (Span.mk 0 0)).lo (rooms.getD 0 (Span.mk 0 0)).hi)=false -> ∀ (x44:Nat),x44<=left.length->decide ((x44:Int) < (↑((setN left j2).length):Int))=true->0<=(x44:Int))
  (o62:Sound f/\GoodLeft f left/\rooms.length<=3->decide ((↑(rooms.length):Int)=0)=false -> ∀ (j2:Nat),j2 < prodL left->True->(!within (pointsP f (setN left j2)) (rooms.getD 0 (Span.mk 0 0)).lo (rooms.getD 0 (Span.mk 0 0)).hi)=false -> ∀ (x44:Nat),x44<=left.length->decide ((x44:Int) < (↑((setN left j2).length):Int))=true->(x44:Int) < (↑(left.length):Int))
  (o63:Sound f/\GoodLeft f left/\rooms.length<=3->decide ((↑(rooms.length):Int)=0)=false -> ∀ (j2:Nat),j2 < prodL left->True->(!within (pointsP f (setN left j2)) (rooms.getD 0 (Span.mk 0 0)).lo (rooms.getD 0 (Span.mk 0 0)).hi)=false -> ∀ (x44:Nat),x44<=left.length->decide ((x44:Int) < (↑((setN left j2).length):Int))=true->x44 < left.length)
  (o64:Sound f/\GoodLeft f left/\rooms.length<=3->decide ((↑(rooms.length):Int)=0)=false -> ∀ (j2:Nat),j2 < prodL left->True->(!within (pointsP f (setN left j2)) (rooms.getD 0 (Span.mk 0 0)).lo (rooms.getD 0 (Span.mk 0 0)).hi)=false -> ∀ (x44:Nat),x44<=left.length->decide ((x44:Int) < (↑((setN left j2).length):Int))=true->inI (sumTo (setN left j2) x44 + (setN left j2).getD x44 0))
  (o65:Sound f/\GoodLeft f left/\rooms.length<=3->decide ((↑(rooms.length):Int)=0)=false -> ∀ (j2:Nat),j2 < prodL left->True->(!within (pointsP f (setN left j2)) (rooms.getD 0 (Span.mk 0 0)).lo (rooms.getD 0 (Span.mk 0 0)).hi)=false -> ∀ (x44:Nat),x44<=left.length->decide ((x44:Int) < (↑((setN left j2).length):Int))=true->inI ((x44:Int) + 1))
  (o66:Sound f/\GoodLeft f left/\rooms.length<=3->decide ((↑(rooms.length):Int)=0)=false -> ∀ (j2:Nat),j2 < prodL left->True->(!within (pointsP f (setN left j2)) (rooms.getD 0 (Span.mk 0 0)).lo (rooms.getD 0 (Span.mk 0 0)).hi)=false -> ∀ (x44:Nat),x44<=left.length->decide ((x44:Int) < (↑((setN left j2).length):Int))=true->sumTo (setN left j2) x44 + (setN left j2).getD x44 0=sumTo (setN left j2) (x44 + 1))
  (o67:Sound f/\GoodLeft f left/\rooms.length<=3->decide ((↑(rooms.length):Int)=0)=false -> ∀ (j2:Nat),j2 < prodL left->True->(!within (pointsP f (setN left j2)) (rooms.getD 0 (Span.mk 0 0)).lo (rooms.getD 0 (Span.mk 0 0)).hi)=false -> ∀ (x44:Nat),x44<=left.length->decide ((x44:Int) < (↑((setN left j2).length):Int))=true->(x44:Int) + 1=(↑(x44 + 1):Int))
  (o68:Sound f/\GoodLeft f left/\rooms.length<=3->decide ((↑(rooms.length):Int)=0)=false -> ∀ (j2:Nat),j2 < prodL left->True->(!within (pointsP f (setN left j2)) (rooms.getD 0 (Span.mk 0 0)).lo (rooms.getD 0 (Span.mk 0 0)).hi)=false -> ∀ (x44:Nat),x44<=left.length->decide ((x44:Int) < (↑((setN left j2).length):Int))=true -> ∀ (i48:Nat),i48 < left.length->Decidable.rec (fun (h:¬i48=x44)=>[iv (restQ left (setN left j2) x44 i48)]) (fun (h:i48=x44)=>[iv (restQ left (setN left j2) x44 x44 - (setN left j2).getD x44 0)] ++ []) (instDecidableEqNat i48 x44) = [iv (restQ left (setN left j2) (x44 + 1) i48)])
  (o69:Sound f/\GoodLeft f left/\rooms.length<=3->decide ((↑(rooms.length):Int)=0)=false -> ∀ (j2:Nat),j2 < prodL left->True->(!within (pointsP f (setN left j2)) (rooms.getD 0 (Span.mk 0 0)).lo (rooms.getD 0 (Span.mk 0 0)).hi)=false -> ∀ (x44:Nat),x44<=left.length->decide ((x44:Int) < (↑((setN left j2).length):Int))=true->x44 + 1<=left.length)
  (o70:Sound f/\GoodLeft f left/\rooms.length<=3->decide ((↑(rooms.length):Int)=0)=false -> ∀ (j2:Nat),j2 < prodL left->True->(!within (pointsP f (setN left j2)) (rooms.getD 0 (Span.mk 0 0)).lo (rooms.getD 0 (Span.mk 0 0)).hi)=false -> ∀ (x44:Nat),x44<=left.length->decide ((x44:Int) < (↑((setN left j2).length):Int))=true->left.length - (x44 + 1) < left.length - x44)
  (o71:Sound f/\GoodLeft f left/\rooms.length<=3->decide ((↑(rooms.length):Int)=0)=false -> ∀ (j2:Nat),j2 < prodL left->True->(!within (pointsP f (setN left j2)) (rooms.getD 0 (Span.mk 0 0)).lo (rooms.getD 0 (Span.mk 0 0)).hi)=false -> ∀ (x44:Nat),x44<=left.length->decide ((x44:Int) < (↑((setN left j2).length):Int))=false->1<=(↑(rooms.length):Int))
  (o72:Sound f/\GoodLeft f left/\rooms.length<=3->decide ((↑(rooms.length):Int)=0)=false -> ∀ (j2:Nat),j2 < prodL left->True->(!within (pointsP f (setN left j2)) (rooms.getD 0 (Span.mk 0 0)).lo (rooms.getD 0 (Span.mk 0 0)).hi)=false -> ∀ (x44:Nat),x44<=left.length->decide ((x44:Int) < (↑((setN left j2).length):Int))=false->rooms.length - 1=(List.drop 1 rooms).length)
  (o73:Sound f/\GoodLeft f left/\rooms.length<=3->decide ((↑(rooms.length):Int)=0)=false -> ∀ (j2:Nat),j2 < prodL left->True->(!within (pointsP f (setN left j2)) (rooms.getD 0 (Span.mk 0 0)).lo (rooms.getD 0 (Span.mk 0 0)).hi)=false -> ∀ (x44:Nat),x44<=left.length->decide ((x44:Int) < (↑((setN left j2).length):Int))=false -> ∀ (i50:Nat),i50 < (List.drop 1 rooms).length->cSpan (rooms.getD (1 + i50) (Span.mk 0 0))=cSpan ((List.drop 1 rooms).getD i50 (Span.mk 0 0)))
  (o74:Sound f/\GoodLeft f left/\rooms.length<=3->decide ((↑(rooms.length):Int)=0)=false -> ∀ (j2:Nat),j2 < prodL left->True->(!within (pointsP f (setN left j2)) (rooms.getD 0 (Span.mk 0 0)).lo (rooms.getD 0 (Span.mk 0 0)).hi)=false -> ∀ (x44:Nat),x44<=left.length->decide ((x44:Int) < (↑((setN left j2).length):Int))=false->left.length=(restL left (setN left j2)).length)
  (o75:Sound f/\GoodLeft f left/\rooms.length<=3->decide ((↑(rooms.length):Int)=0)=false -> ∀ (j2:Nat),j2 < prodL left->True->(!within (pointsP f (setN left j2)) (rooms.getD 0 (Span.mk 0 0)).lo (rooms.getD 0 (Span.mk 0 0)).hi)=false -> ∀ (x44:Nat),x44<=left.length->decide ((x44:Int) < (↑((setN left j2).length):Int))=false -> ∀ (i52:Nat),i52 < (restL left (setN left j2)).length -> [iv (restQ left (setN left j2) x44 i52)] = [iv ((restL left (setN left j2)).getD i52 0)])
  (o76:Sound f/\GoodLeft f left/\rooms.length<=3->decide ((↑(rooms.length):Int)=0)=false -> ∀ (j2:Nat),j2 < prodL left->True->(!within (pointsP f (setN left j2)) (rooms.getD 0 (Span.mk 0 0)).lo (rooms.getD 0 (Span.mk 0 0)).hi)=false -> ∀ (x44:Nat),x44<=left.length->decide ((x44:Int) < (↑((setN left j2).length):Int))=false->Triple Try.prog 128 (c128r f rooms left j2))
  (o77:Sound f/\GoodLeft f left/\rooms.length<=3->decide ((↑(rooms.length):Int)=0)=false -> ∀ (j2:Nat),j2 < prodL left->True->(!within (pointsP f (setN left j2)) (rooms.getD 0 (Span.mk 0 0)).lo (rooms.getD 0 (Span.mk 0 0)).hi)=false -> ∀ (x44:Nat),x44<=left.length->decide ((x44:Int) < (↑((setN left j2).length):Int))=false->GoodLeft f (restL left (setN left j2)))
  (o78:Sound f/\GoodLeft f left/\rooms.length<=3->decide ((↑(rooms.length):Int)=0)=false -> ∀ (j2:Nat),j2 < prodL left->True->(!within (pointsP f (setN left j2)) (rooms.getD 0 (Span.mk 0 0)).lo (rooms.getD 0 (Span.mk 0 0)).hi)=false -> ∀ (x44:Nat),x44<=left.length->decide ((x44:Int) < (↑((setN left j2).length):Int))=false->(List.drop 1 rooms).length<=3)
  (o79:Sound f/\GoodLeft f left/\rooms.length<=3->decide ((↑(rooms.length):Int)=0)=false -> ∀ (j2:Nat),j2 < prodL left->True->(!within (pointsP f (setN left j2)) (rooms.getD 0 (Span.mk 0 0)).lo (rooms.getD 0 (Span.mk 0 0)).hi)=false -> ∀ (x44:Nat),x44<=left.length->decide ((x44:Int) < (↑((setN left j2).length):Int))=false->(!!Option.isSome (lockP f (List.drop 1 rooms) (restL left (setN left j2))) && !!Option.isSome (bestP f rooms left j2))=true->Option.isSome (lockP f (List.drop 1 rooms) (restL left (setN left j2)))=true)
  (o80:Sound f/\GoodLeft f left/\rooms.length<=3->decide ((↑(rooms.length):Int)=0)=false -> ∀ (j2:Nat),j2 < prodL left->True->(!within (pointsP f (setN left j2)) (rooms.getD 0 (Span.mk 0 0)).lo (rooms.getD 0 (Span.mk 0 0)).hi)=false -> ∀ (x44:Nat),x44<=left.length->decide ((x44:Int) < (↑((setN left j2).length):Int))=false->(!!Option.isSome (lockP f (List.drop 1 rooms) (restL left (setN left j2))) && !!Option.isSome (bestP f rooms left j2))=true->Option.isSome (lockP f (List.drop 1 rooms) (restL left (setN left j2)))=true)
  (o81:Sound f/\GoodLeft f left/\rooms.length<=3->decide ((↑(rooms.length):Int)=0)=false -> ∀ (j2:Nat),j2 < prodL left->True->(!within (pointsP f (setN left j2)) (rooms.getD 0 (Span.mk 0 0)).lo (rooms.getD 0 (Span.mk 0 0)).hi)=false -> ∀ (x44:Nat),x44<=left.length->decide ((x44:Int) < (↑((setN left j2).length):Int))=false->(!!Option.isSome (lockP f (List.drop 1 rooms) (restL left (setN left j2))) && !!Option.isSome (bestP f rooms left j2))=true->inI (sumTo (setN left j2) x44 + layM (lockP f (List.drop 1 rooms) (restL left (setN left j2)))))
  (o82:Sound f/\GoodLeft f left/\rooms.length<=3->decide ((↑(rooms.length):Int)=0)=false -> ∀ (j2:Nat),j2 < prodL left->True->(!within (pointsP f (setN left j2)) (rooms.getD 0 (Span.mk 0 0)).lo (rooms.getD 0 (Span.mk 0 0)).hi)=false -> ∀ (x44:Nat),x44<=left.length->decide ((x44:Int) < (↑((setN left j2).length):Int))=false->(!!Option.isSome (lockP f (List.drop 1 rooms) (restL left (setN left j2))) && !!Option.isSome (bestP f rooms left j2))=true->Option.isSome (bestP f rooms left j2)=true)
  (o83:Sound f/\GoodLeft f left/\rooms.length<=3->decide ((↑(rooms.length):Int)=0)=false -> ∀ (j2:Nat),j2 < prodL left->True->(!within (pointsP f (setN left j2)) (rooms.getD 0 (Span.mk 0 0)).lo (rooms.getD 0 (Span.mk 0 0)).hi)=false -> ∀ (x44:Nat),x44<=left.length->decide ((x44:Int) < (↑((setN left j2).length):Int))=false->(!!Option.isSome (lockP f (List.drop 1 rooms) (restL left (setN left j2))) && !!Option.isSome (bestP f rooms left j2))=true->Option.isSome (bestP f rooms left j2)=true)
  (o84:Sound f/\GoodLeft f left/\rooms.length<=3->decide ((↑(rooms.length):Int)=0)=false -> ∀ (j2:Nat),j2 < prodL left->True->(!within (pointsP f (setN left j2)) (rooms.getD 0 (Span.mk 0 0)).lo (rooms.getD 0 (Span.mk 0 0)).hi)=false -> ∀ (x44:Nat),x44<=left.length->decide ((x44:Int) < (↑((setN left j2).length):Int))=false->(!!Option.isSome (lockP f (List.drop 1 rooms) (restL left (setN left j2))))=true->(!Option.isSome (bestP f rooms left j2))=false->(!!Option.isSome (lockP f (List.drop 1 rooms) (restL left (setN left j2))) && !!Option.isSome (bestP f rooms left j2))=true)
  (o85:Sound f/\GoodLeft f left/\rooms.length<=3->decide ((↑(rooms.length):Int)=0)=false -> ∀ (j2:Nat),j2 < prodL left->True->(!within (pointsP f (setN left j2)) (rooms.getD 0 (Span.mk 0 0)).lo (rooms.getD 0 (Span.mk 0 0)).hi)=false -> ∀ (x44:Nat),x44<=left.length->decide ((x44:Int) < (↑((setN left j2).length):Int))=false->(bif !!Option.isSome (lockP f (List.drop 1 rooms) (restL left (setN left j2))) then bif !Option.isSome (bestP f rooms left j2) then true else decide (sumTo (setN left j2) x44 + layM (lockP f (List.drop 1 rooms) (restL left (setN left j2))) < layM (bestP f rooms left j2)) else false)=true->(setN left j2).length<=60000)
  (o86:Sound f/\GoodLeft f left/\rooms.length<=3->decide ((↑(rooms.length):Int)=0)=false -> ∀ (j2:Nat),j2 < prodL left->True->(!within (pointsP f (setN left j2)) (rooms.getD 0 (Span.mk 0 0)).lo (rooms.getD 0 (Span.mk 0 0)).hi)=false -> ∀ (x44:Nat),x44<=left.length->decide ((x44:Int) < (↑((setN left j2).length):Int))=false->(bif !!Option.isSome (lockP f (List.drop 1 rooms) (restL left (setN left j2))) then bif !Option.isSome (bestP f rooms left j2) then true else decide (sumTo (setN left j2) x44 + layM (lockP f (List.drop 1 rooms) (restL left (setN left j2))) < layM (bestP f rooms left j2)) else false)=true->Option.isSome (lockP f (List.drop 1 rooms) (restL left (setN left j2)))=true)
  (o87:Sound f/\GoodLeft f left/\rooms.length<=3->decide ((↑(rooms.length):Int)=0)=false -> ∀ (j2:Nat),j2 < prodL left->True->(!within (pointsP f (setN left j2)) (rooms.getD 0 (Span.mk 0 0)).lo (rooms.getD 0 (Span.mk 0 0)).hi)=false -> ∀ (x44:Nat),x44<=left.length->decide ((x44:Int) < (↑((setN left j2).length):Int))=false->(bif !!Option.isSome (lockP f (List.drop 1 rooms) (restL left (setN left j2))) then bif !Option.isSome (bestP f rooms left j2) then true else decide (sumTo (setN left j2) x44 + layM (lockP f (List.drop 1 rooms) (restL left (setN left j2))) < layM (bestP f rooms left j2)) else false)=true->Option.isSome (lockP f (List.drop 1 rooms) (restL left (setN left j2)))=true)
  (o88:Sound f/\GoodLeft f left/\rooms.length<=3->decide ((↑(rooms.length):Int)=0)=false -> ∀ (j2:Nat),j2 < prodL left->True->(!within (pointsP f (setN left j2)) (rooms.getD 0 (Span.mk 0 0)).lo (rooms.getD 0 (Span.mk 0 0)).hi)=false -> ∀ (x44:Nat),x44<=left.length->decide ((x44:Int) < (↑((setN left j2).length):Int))=false->(bif !!Option.isSome (lockP f (List.drop 1 rooms) (restL left (setN left j2))) then bif !Option.isSome (bestP f rooms left j2) then true else decide (sumTo (setN left j2) x44 + layM (lockP f (List.drop 1 rooms) (restL left (setN left j2))) < layM (bestP f rooms left j2)) else false)=true->1 + (layS (lockP f (List.drop 1 rooms) (restL left (setN left j2)))).length<=65536)
  (o89:Sound f/\GoodLeft f left/\rooms.length<=3->decide ((↑(rooms.length):Int)=0)=false -> ∀ (j2:Nat),j2 < prodL left->True->(!within (pointsP f (setN left j2)) (rooms.getD 0 (Span.mk 0 0)).lo (rooms.getD 0 (Span.mk 0 0)).hi)=false -> ∀ (x44:Nat),x44<=left.length->decide ((x44:Int) < (↑((setN left j2).length):Int))=false->(bif !!Option.isSome (lockP f (List.drop 1 rooms) (restL left (setN left j2))) then bif !Option.isSome (bestP f rooms left j2) then true else decide (sumTo (setN left j2) x44 + layM (lockP f (List.drop 1 rooms) (restL left (setN left j2))) < layM (bestP f rooms left j2)) else false)=true->Option.isSome (lockP f (List.drop 1 rooms) (restL left (setN left j2)))=true)
  (o90:Sound f/\GoodLeft f left/\rooms.length<=3->decide ((↑(rooms.length):Int)=0)=false -> ∀ (j2:Nat),j2 < prodL left->True->(!within (pointsP f (setN left j2)) (rooms.getD 0 (Span.mk 0 0)).lo (rooms.getD 0 (Span.mk 0 0)).hi)=false -> ∀ (x44:Nat),x44<=left.length->decide ((x44:Int) < (↑((setN left j2).length):Int))=false->(bif !!Option.isSome (lockP f (List.drop 1 rooms) (restL left (setN left j2))) then bif !Option.isSome (bestP f rooms left j2) then true else decide (sumTo (setN left j2) x44 + layM (lockP f (List.drop 1 rooms) (restL left (setN left j2))) < layM (bestP f rooms left j2)) else false)=true->Option.isSome (lockP f (List.drop 1 rooms) (restL left (setN left j2)))=true)
  (o91:Sound f/\GoodLeft f left/\rooms.length<=3->decide ((↑(rooms.length):Int)=0)=false -> ∀ (j2:Nat),j2 < prodL left->True->(!within (pointsP f (setN left j2)) (rooms.getD 0 (Span.mk 0 0)).lo (rooms.getD 0 (Span.mk 0 0)).hi)=false -> ∀ (x44:Nat),x44<=left.length->decide ((x44:Int) < (↑((setN left j2).length):Int))=false->(bif !!Option.isSome (lockP f (List.drop 1 rooms) (restL left (setN left j2))) then bif !Option.isSome (bestP f rooms left j2) then true else decide (sumTo (setN left j2) x44 + layM (lockP f (List.drop 1 rooms) (restL left (setN left j2))) < layM (bestP f rooms left j2)) else false)=true->inI (sumTo (setN left j2) x44 + layM (lockP f (List.drop 1 rooms) (restL left (setN left j2)))))
  (o92:Sound f/\GoodLeft f left/\rooms.length<=3->decide ((↑(rooms.length):Int)=0)=false -> ∀ (j2:Nat),j2 < prodL left->True->(!within (pointsP f (setN left j2)) (rooms.getD 0 (Span.mk 0 0)).lo (rooms.getD 0 (Span.mk 0 0)).hi)=false -> ∀ (x44:Nat),x44<=left.length->decide ((x44:Int) < (↑((setN left j2).length):Int))=false->(bif !!Option.isSome (lockP f (List.drop 1 rooms) (restL left (setN left j2))) then bif !Option.isSome (bestP f rooms left j2) then true else decide (sumTo (setN left j2) x44 + layM (lockP f (List.drop 1 rooms) (restL left (setN left j2))) < layM (bestP f rooms left j2)) else false)=true->Option.isSome (bestP f rooms left (j2 + 1))=true)
  (o93:Sound f/\GoodLeft f left/\rooms.length<=3->decide ((↑(rooms.length):Int)=0)=false -> ∀ (j2:Nat),j2 < prodL left->True->(!within (pointsP f (setN left j2)) (rooms.getD 0 (Span.mk 0 0)).lo (rooms.getD 0 (Span.mk 0 0)).hi)=false -> ∀ (x44:Nat),x44<=left.length->decide ((x44:Int) < (↑((setN left j2).length):Int))=false->(bif !!Option.isSome (lockP f (List.drop 1 rooms) (restL left (setN left j2))) then bif !Option.isSome (bestP f rooms left j2) then true else decide (sumTo (setN left j2) x44 + layM (lockP f (List.drop 1 rooms) (restL left (setN left j2))) < layM (bestP f rooms left j2)) else false)=true->1 + (layS (lockP f (List.drop 1 rooms) (restL left (setN left j2)))).length=(layS (bestP f rooms left (j2 + 1))).length)
  (o94:Sound f/\GoodLeft f left/\rooms.length<=3->decide ((↑(rooms.length):Int)=0)=false -> ∀ (j2:Nat),j2 < prodL left->True->(!within (pointsP f (setN left j2)) (rooms.getD 0 (Span.mk 0 0)).lo (rooms.getD 0 (Span.mk 0 0)).hi)=false -> ∀ (x44:Nat),x44<=left.length->decide ((x44:Int) < (↑((setN left j2).length):Int))=false->(bif !!Option.isSome (lockP f (List.drop 1 rooms) (restL left (setN left j2))) then bif !Option.isSome (bestP f rooms left j2) then true else decide (sumTo (setN left j2) x44 + layM (lockP f (List.drop 1 rooms) (restL left (setN left j2))) < layM (bestP f rooms left j2)) else false)=true -> ∀ (i89:Nat),i89 < (layS (bestP f rooms left (j2 + 1))).length->catF 1 (fun (j:Nat)=>List.getD [[AV.sl 1 (setN left j2).length fun (i:Nat)=>[iv ((setN left j2).getD i 0)]]] j (TI.za ti27)) (fun (i:Nat)=>[aInts ((layS (lockP f (List.drop 1 rooms) (restL left (setN left j2)))).getD i [])]) i89 = [aInts ((layS (bestP f rooms left (j2 + 1))).getD i89 [])])
  (o95:Sound f/\GoodLeft f left/\rooms.length<=3->decide ((↑(rooms.length):Int)=0)=false -> ∀ (j2:Nat),j2 < prodL left->True->(!within (pointsP f (setN left j2)) (rooms.getD 0 (Span.mk 0 0)).lo (rooms.getD 0 (Span.mk 0 0)).hi)=false -> ∀ (x44:Nat),x44<=left.length->decide ((x44:Int) < (↑((setN left j2).length):Int))=false->(bif !!Option.isSome (lockP f (List.drop 1 rooms) (restL left (setN left j2))) then bif !Option.isSome (bestP f rooms left j2) then true else decide (sumTo (setN left j2) x44 + layM (lockP f (List.drop 1 rooms) (restL left (setN left j2))) < layM (bestP f rooms left j2)) else false)=true->sumTo (setN left j2) x44 + layM (lockP f (List.drop 1 rooms) (restL left (setN left j2)))=layM (bestP f rooms left (j2 + 1)))
  (o96:Sound f/\GoodLeft f left/\rooms.length<=3->decide ((↑(rooms.length):Int)=0)=false -> ∀ (j2:Nat),j2 < prodL left->True->(!within (pointsP f (setN left j2)) (rooms.getD 0 (Span.mk 0 0)).lo (rooms.getD 0 (Span.mk 0 0)).hi)=false -> ∀ (x44:Nat),x44<=left.length->decide ((x44:Int) < (↑((setN left j2).length):Int))=false->(bif !!Option.isSome (lockP f (List.drop 1 rooms) (restL left (setN left j2))) then bif !Option.isSome (bestP f rooms left j2) then true else decide (sumTo (setN left j2) x44 + layM (lockP f (List.drop 1 rooms) (restL left (setN left j2))) < layM (bestP f rooms left j2)) else false)=false->Option.isSome (bestP f rooms left j2)=Option.isSome (bestP f rooms left (j2 + 1)))
  (o97:Sound f/\GoodLeft f left/\rooms.length<=3->decide ((↑(rooms.length):Int)=0)=false -> ∀ (j2:Nat),j2 < prodL left->True->(!within (pointsP f (setN left j2)) (rooms.getD 0 (Span.mk 0 0)).lo (rooms.getD 0 (Span.mk 0 0)).hi)=false -> ∀ (x44:Nat),x44<=left.length->decide ((x44:Int) < (↑((setN left j2).length):Int))=false->(bif !!Option.isSome (lockP f (List.drop 1 rooms) (restL left (setN left j2))) then bif !Option.isSome (bestP f rooms left j2) then true else decide (sumTo (setN left j2) x44 + layM (lockP f (List.drop 1 rooms) (restL left (setN left j2))) < layM (bestP f rooms left j2)) else false)=false->Option.isSome (bestP f rooms left (j2 + 1))=true->(layS (bestP f rooms left j2)).length=(layS (bestP f rooms left (j2 + 1))).length)
  (o98:Sound f/\GoodLeft f left/\rooms.length<=3->decide ((↑(rooms.length):Int)=0)=false -> ∀ (j2:Nat),j2 < prodL left->True->(!within (pointsP f (setN left j2)) (rooms.getD 0 (Span.mk 0 0)).lo (rooms.getD 0 (Span.mk 0 0)).hi)=false -> ∀ (x44:Nat),x44<=left.length->decide ((x44:Int) < (↑((setN left j2).length):Int))=false->(bif !!Option.isSome (lockP f (List.drop 1 rooms) (restL left (setN left j2))) then bif !Option.isSome (bestP f rooms left j2) then true else decide (sumTo (setN left j2) x44 + layM (lockP f (List.drop 1 rooms) (restL left (setN left j2))) < layM (bestP f rooms left j2)) else false)=false->Option.isSome (bestP f rooms left (j2 + 1))=true -> ∀ (i92:Nat),i92 < (layS (bestP f rooms left (j2 + 1))).length -> [aInts ((layS (bestP f rooms left j2)).getD i92 [])] = [aInts ((layS (bestP f rooms left (j2 + 1))).getD i92 [])])
  (o99:Sound f/\GoodLeft f left/\rooms.length<=3->decide ((↑(rooms.length):Int)=0)=false -> ∀ (j2:Nat),j2 < prodL left->True->(!within (pointsP f (setN left j2)) (rooms.getD 0 (Span.mk 0 0)).lo (rooms.getD 0 (Span.mk 0 0)).hi)=false -> ∀ (x44:Nat),x44<=left.length->decide ((x44:Int) < (↑((setN left j2).length):Int))=false->(bif !!Option.isSome (lockP f (List.drop 1 rooms) (restL left (setN left j2))) then bif !Option.isSome (bestP f rooms left j2) then true else decide (sumTo (setN left j2) x44 + layM (lockP f (List.drop 1 rooms) (restL left (setN left j2))) < layM (bestP f rooms left j2)) else false)=false->Option.isSome (bestP f rooms left (j2 + 1))=true->layM (bestP f rooms left j2)=layM (bestP f rooms left (j2 + 1)))
  (o100:Sound f/\GoodLeft f left/\rooms.length<=3->decide ((↑(rooms.length):Int)=0)=false->Option.isSome (bestP f rooms left (prodL left))=Option.isSome (lockP f rooms left))
  (o101:Sound f/\GoodLeft f left/\rooms.length<=3->decide ((↑(rooms.length):Int)=0)=false->Option.isSome (lockP f rooms left)=true->(layS (bestP f rooms left (prodL left))).length=(layS (lockP f rooms left)).length)
  (o102:Sound f/\GoodLeft f left/\rooms.length<=3->decide ((↑(rooms.length):Int)=0)=false->Option.isSome (lockP f rooms left)=true -> ∀ (i95:Nat),i95 < (layS (lockP f rooms left)).length -> [aInts ((layS (bestP f rooms left (prodL left))).getD i95 [])] = [aInts ((layS (lockP f rooms left)).getD i95 [])])
  (o103:Sound f/\GoodLeft f left/\rooms.length<=3->decide ((↑(rooms.length):Int)=0)=false->Option.isSome (lockP f rooms left)=true->layM (bestP f rooms left (prodL left))=layM (lockP f rooms left)) :
  Triple Try.prog 128 (s128 f rooms left):=by
 refine triple_of Try.func128 rfl Try.call128 T0_ok _ rfl rfl rfl rfl (Nat.le_of_ble_eq_true (by kernel_rfl)) (fun _ _ _ _ h=>h) ?_
 intro hpre C hC _ hE
 obtain ⟨P,w0,E0,av,hA,ro,df⟩:=C
 obtain ⟨rfl,rfl,rfl⟩:=hC
 refine swp_seq ?_
 refine zR [3,4,5] [0,8,16] (Ak 4 tv) ?_
 refine swp_seq ?_
 refine swp_seq ?_
 refine zR [3,4,5,16] [0,8,16] (Ak 3 tv) ?_
 refine zI (decide ((↑(rooms.length):Int)=0)) (fun y0 => ?_) (fun y0 => ?_)
 ·refine swp_seq ?_
  refine zC ([(1,focB)]) [6] [] (Ak 3 tv) ?_
  refine swp_ret ?_
  exact zT [] (An (Ak 1 tv) (An (An (o0 hpre y0) (An (o1 hpre y0) (An (ci (o2 hpre y0)) tv))) (An (zr true) (An (zr true) (zr true)))))
 ·refine swp_skip ?_
  refine swp_seq ?_
  refine zR [3,4,5,7] [0,8,16,56] (Ak 1 tv) ?_
  refine swp_seq ?_
  refine swp_seq ?_
  refine swp_ent (zF 0) ?_
  refine swp_ent (zF 8) ?_
  refine swp_ent (zF 16) ?_
  refine zC ([(2,CallSpec.eq (s149 f left) [true,true])]) [3,4,5,7,21] [56] (Ak 2 (An (An (An (zr (AV.agg (cFrm f))) (An (zr (aInts left)) tv)) (An (t149 (f) (left)) (Ak 2 (fun (i1:Env)=>tv)))) tv)) ?_
  refine swp_block ?_
  refine zG (r128 f rooms left) 88 2000088 0 [3,4,5,7] [AV.rp [aInts left]] Try.func159 Try.call159 rfl (fun C hC hY2 hE => ?_) (fun (j2:Nat) hj2 hp2 C hC hE => ?_) ?_
  ·obtain ⟨P,w0,E0,av,hA,ro,df⟩:=C
   subst hC
   refine swp_seq ?_
   refine zR [0,1,3] [56,104] (Ak 2 (An (An (zr ((↑(left.length):Int))) (An (o3 hpre y0) (o4 hpre y0))) (Ak 1 tv))) ?_
   refine swp_block ?_
   refine zL (Hint.ann (h159a f rooms left) [(0,AV.fn 0),(1,AV.rp [aInts left])] [] 10120) (zEn 88 hE [] [(56,.same 56),(5000,.same 104)] [0,1] [] (An (An (An (zr (AV.fn 0)) (zr true)) (An (An (zr (AV.rp [aInts left])) (zr true)) (An (zr (some (Src.same 104))) tv))) (An (An (An (zr 108) (An (An (o5 hpre y0) tv) (zr true))) (An (An (zr 3) (An (zr 1) (An (o6 hpre y0) (fun (i4:Nat)=>(fun (y5:i4 < left.length)=>(o7 hpre y0 i4 y5)))))) tv)) (An (zr true) (zr true))))) (o8 hpre y0) (fun (x3:Nat) hx3 => ?_)
   refine swp_block ?_
   refine swp_seq ?_
   refine swp_seq ?_
   refine zC ([(2,CallSpec.eq (y128 f rooms left x3) [true])]) [0,1,3,11] [56,5000] (Ak 2 (An (An (An (zr (AV.vec 5000)) tv) (An (hY2 x3 hx3) (Ak 1 (An (zr (some (OB.cells 108 [AV.opt (Option.isSome (bestP f rooms left x3)) (cLay (bestP f rooms left x3))]))) (An (zr (some (OB.vec 3 1 (setN left x3).length fun (i:Nat)=>[iv ((setN left x3).getD i 0)]))) tv))))) (Ak 1 tv))) ?_
   refine zf ?_
   refine swp_skip ?_
   refine swp_seq ?_
   refine zR [0,1,3,4] [56,5000] (Ak 2 (An (o9 hpre y0 x3 hx3) (Ak 1 tv))) ?_
   refine swp_seq ?_
   refine swp_block ?_
   refine zL (Hint.ann (h159b f rooms left x3) [(0,AV.fn 0),(1,AV.rp [aInts left]),(3,AV.vec 5000)] [(56,OB.cells 108 [AV.opt (Option.isSome (bestP f rooms left (x3 + 1))) (cLay (bestP f rooms left (x3 + 1)))])] 20184) (zEn 88 hE [] [(56,.same 56),(5000,.same 5000)] [0,1] [56] (An (An (An (zr (AV.fn 0)) (zr true)) (An (An (zr (AV.rp [aInts left])) (zr true)) (An (zr (some (Src.same 5000))) (An (An (ci (o10 hpre y0 x3 hx3)) (zr nilN)) tv)))) (An (An (An (zr (OB.cells 108 [AV.opt (Option.isSome (bestP f rooms left (x3 + 1))) (cLay (bestP f rooms left (x3 + 1)))])) (zr true)) (An (An (zr 3) (An (zr 1) (An (o11 hpre y0 x3 hx3) (fun (i7:Nat)=>(fun (y8:i7 < (setN left x3).length)=>(o12 hpre y0 x3 hx3 i7 y8)))))) tv)) (An (zr true) (zr true))))) (o13 hpre y0 x3 hx3) (fun (x6:Nat) hx6 => ?_)
   refine swp_seq ?_
   refine swp_seq ?_
   refine zR [0,1,3,4,27] [56,5000] (Ak 3 (An (fun (y9:decide (0<=(↑(left.length):Int) - 1 - (x6:Int))=true)=>(An (Ak 1 tv) tv)) (An (fun (y10:decide (0<=(↑(left.length):Int) - 1 - (x6:Int))=true)=>(An (Ak 1 tv) tv)) (An (fun (y11:decide (0<=(↑(left.length):Int) - 1 - (x6:Int))=true)=>(An (An (fun (y12:decide (0<=(↑(left.length):Int) - 1 - (x6:Int))=true)=>y11) (An (fun (y13:decide (0<=(↑(left.length):Int) - 1 - (x6:Int))=true)=>y11) tv)) (An (o14 hpre y0 x3 hx3 x6 hx6 y11) (o15 hpre y0 x3 hx3 x6 hx6 y11)))) (An (fun (y14:decide (0<=(↑(left.length):Int) - 1 - (x6:Int))=true)=>(An (An (fun (y15:decide (0<=(↑(left.length):Int) - 1 - (x6:Int))=true)=>y14) tv) (An (o16 hpre y0 x3 hx3 x6 hx6 y14) tv))) (An (fun (y16:decide (0<=(↑(left.length):Int) - 1 - (x6:Int))=true)=>(An (Ak 1 tv) tv)) (An (fun (y17:decide (0<=(↑(left.length):Int) - 1 - (x6:Int))=true)=>(An (Ak 1 tv) tv)) (An (fun (y18:decide (0<=(↑(left.length):Int) - 1 - (x6:Int))=true)=>(An (An (fun (y19:decide (0<=(↑(left.length):Int) - 1 - (x6:Int))=true)=>y18) (An (fun (y20:decide (0<=(↑(left.length):Int) - 1 - (x6:Int))=true)=>y18) tv)) (An (o17 hpre y0 x3 hx3 x6 hx6 y18) (o18 hpre y0 x3 hx3 x6 hx6 y18)))) (An (fun (y21:decide (0<=(↑(left.length):Int) - 1 - (x6:Int))=true)=>(An (An (fun (y22:decide (0<=(↑(left.length):Int) - 1 - (x6:Int))=true)=>y21) tv) tv)) (An (fun (y23:decide (0<=(↑(left.length):Int) - 1 - (x6:Int))=true)=>(An (An (fun (y24:decide (0<=(↑(left.length):Int) - 1 - (x6:Int))=true)=>y23) (An (fun (y25:decide (0<=(↑(left.length):Int) - 1 - (x6:Int))=true)=>y23) tv)) tv)) (An (An (fun (y26:decide (0<=(↑(left.length):Int) - 1 - (x6:Int))=true)=>y26) (fun (y27:decide (0<=(↑(left.length):Int) - 1 - (x6:Int))=false)=>tv)) tv))))))))))) ?_
   refine zI (bif decide (0<=(↑(left.length):Int) - 1 - (x6:Int)) then decide (rowO left x3 ((↑(left.length):Int) - 1 - (x6:Int)) ((↑(left.length):Int) - 1 - (x6:Int)).toNat=left.getD ((↑(left.length):Int) - 1 - (x6:Int)).toNat 0) else false) (fun y28 => ?_) (fun y28 => ?_)
   ·refine swp_skip ?_
    refine swp_seq ?_
    refine swp_block ?_
    refine zR [0,1,3,4] [56,5000] (Ak 2 (An (An (o19 hpre y0 x3 hx3 x6 hx6 y28) (o20 hpre y0 x3 hx3 x6 hx6 y28)) (An (An (o21 hpre y0 x3 hx3 x6 hx6 y28) tv) tv))) ?_
    refine zR [0,1,3,4] [56,5000] (Ak 1 (An (o22 hpre y0 x3 hx3 x6 hx6 y28) (Ak 1 tv))) ?_
    exact zn (zEn 88 hE [] [(56,.same 56),(5000,.same 5000)] [0,1] [56] (An (An (An (zr (AV.fn 0)) (zr true)) (An (An (zr (AV.rp [aInts left])) (zr true)) (An (zr (some (Src.same 5000))) (An (An (ci (o23 hpre y0 x3 hx3 x6 hx6 y28)) (zr nilN)) tv)))) (An (An (An (zr (OB.cells 108 [AV.opt (Option.isSome (bestP f rooms left (x3 + 1))) (cLay (bestP f rooms left (x3 + 1)))])) (zr true)) (An (An (zr 3) (An (zr 1) (An (zr left.length) (fun (i29:Nat)=>(fun (y30:i29 < left.length)=>(o24 hpre y0 x3 hx3 x6 hx6 y28 i29 y30)))))) tv)) (An (zr true) (zr true))))) (o25 hpre y0 x3 hx3 x6 hx6 y28) (o26 hpre y0 x3 hx3 x6 hx6 y28)
   ·refine swp_exit ?_
    refine swp_seq ?_
    refine swp_seq ?_
    refine zR [0,1,3,4,34] [56,5000] (Ak 2 tv) ?_
    refine zI (decide ((↑(left.length):Int) - 1 - (x6:Int) < 0)) (fun y31 => ?_) (fun y31 => ?_)
    ·refine swp_ret ?_
     exact zM (zEn 88 hE [] [(56,.same 56)] [] [] (Ak 1 (An (An (An (zr 108) (An (An (An (o27 hpre y0 x3 hx3 x6 hx6 y28 y31) (fun (y32:Option.isSome (bestP f rooms left (prodL left))=true)=>(An (An (zr 1) (An (o28 hpre y0 x3 hx3 x6 hx6 y28 y31 y32) (fun (i33:Nat)=>(fun (y34:i33 < (layS (bestP f rooms left (prodL left))).length)=>(o29 hpre y0 x3 hx3 x6 hx6 y28 y31 y32 i33 y34))))) (An (ci (o30 hpre y0 x3 hx3 x6 hx6 y28 y31 y32)) tv)))) tv) (zr true))) tv) (An (zr true) (zr true)))))
    ·refine swp_skip ?_
     refine zR [0,1,3] [56,5000] (Ak 2 (An (An (o31 hpre y0 x3 hx3 x6 hx6 y28 y31) (o32 hpre y0 x3 hx3 x6 hx6 y28 y31)) (An (An (o33 hpre y0 x3 hx3 x6 hx6 y28 y31) tv) (An (o34 hpre y0 x3 hx3 x6 hx6 y28 y31) (An (An (o35 hpre y0 x3 hx3 x6 hx6 y28 y31) (o36 hpre y0 x3 hx3 x6 hx6 y28 y31)) (An (An (o37 hpre y0 x3 hx3 x6 hx6 y28 y31) tv) tv)))))) ?_
     exact zn (zEn 88 hE [] [(56,.same 56),(5000,.same 5000)] [0,1] [56] (An (An (An (zr (AV.fn 0)) (zr true)) (An (An (zr (AV.rp [aInts left])) (zr true)) (An (zr (some (Src.same 5000))) tv))) (An (An (An (zr (OB.cells 108 [AV.opt (Option.isSome (bestP f rooms left (x3 + 1))) (cLay (bestP f rooms left (x3 + 1)))])) (zr true)) (An (An (zr 3) (An (zr 1) (An (o38 hpre y0 x3 hx3 x6 hx6 y28 y31) (fun (i35:Nat)=>(fun (y36:i35 < left.length)=>(o39 hpre y0 x3 hx3 x6 hx6 y28 y31 i35 y36)))))) tv)) (An (zr true) (zr true))))) (o40 hpre y0 x3 hx3 x6 hx6 y28 y31) (o41 hpre y0 x3 hx3 x6 hx6 y28 y31)
  ·obtain ⟨P,w0,E0,av,hA,ro,df⟩:=C
   subst hC
   refine zR [3,4,5,7,8] [56,5000] (Ak 1 tv) ?_
   intro C hC hE
   obtain ⟨P,w0,E0,av,hA,ro,df⟩:=C
   subst hC
   refine swp_block ?_
   refine swp_seq ?_
   refine swp_seq ?_
   refine zC ([(2,CallSpec.eq (c128p f rooms left j2) [true,true]),(11,CallSpec.eq (s93 (pointsP f (setN left j2)) (rooms.getD 0 (Span.mk 0 0)).lo (rooms.getD 0 (Span.mk 0 0)).hi) [true,true,true])]) [3,4,5,7,8,35] [56,5000] (Ak 2 (An (An (An (zr (AV.agg (cFrm f))) (An (zr (AV.vec 5000)) tv)) (An (lendT 3 5000 1 (none) (t99 (f) (setN left j2))) (An (An hpre.1 (o42 hpre y0 j2 hj2 hp2)) (An (An (zr (some (OB.vec 3 1 (setN left j2).length fun (i:Nat)=>[iv ((setN left j2).getD i 0)]))) tv) (fun (i37:Env)=>tv))))) (Ak 1 (An (An (by decide:Int.ofNat 0<=Int.ofNat 0) (o43 hpre y0 j2 hj2 hp2)) (Ak 3 (An (An (by decide:Int.ofNat 0<=Int.ofNat 0) (o44 hpre y0 j2 hj2 hp2)) (Ak 2 (An (An (An (zr (iv (pointsP f (setN left j2)))) (An (zr (iv (rooms.getD 0 (Span.mk 0 0)).lo)) (An (zr (iv (rooms.getD 0 (Span.mk 0 0)).hi)) tv))) (An (t93 (pointsP f (setN left j2)) (rooms.getD 0 (Span.mk 0 0)).lo (rooms.getD 0 (Span.mk 0 0)).hi) (Ak 2 (fun (i38:Env)=>tv)))) (Ak 1 tv))))))))) ?_
   refine zI (!within (pointsP f (setN left j2)) (rooms.getD 0 (Span.mk 0 0)).lo (rooms.getD 0 (Span.mk 0 0)).hi) (fun y39 => ?_) (fun y39 => ?_)
   ·refine swp_exit ?_
    exact zN 1006000 (zEn 6000 hE [] [(56,.same 56),(5000,.same 5000)] [] [5000] (Ak 1 (An (An (An (zr 108) (An (An (An (o45 hpre y0 j2 hj2 hp2 y39) (fun (y40:Option.isSome (bestP f rooms left (j2 + 1))=true)=>(An (An (zr 1) (An (o46 hpre y0 j2 hj2 hp2 y39 y40) (fun (i41:Nat)=>(fun (y42:i41 < (layS (bestP f rooms left (j2 + 1))).length)=>(o47 hpre y0 j2 hj2 hp2 y39 y40 i41 y42))))) (An (ci (o48 hpre y0 j2 hj2 hp2 y39 y40)) tv)))) tv) (zr true))) (An (An (zr (OB.vec 3 1 (setN left j2).length fun (i:Nat)=>[iv ((setN left j2).getD i 0)])) (zr true)) tv)) (An (zr true) (zr true)))))
   ·refine swp_skip ?_
    refine swp_seq ?_
    refine zC ([(1,CallSpec.eq (c128c f rooms left j2) [true])]) [3,4,7,8,9,10] [56,5000,6120] (Ak 1 (An (An (An (zr (aInts left)) tv) (An (t126o (left) (6120)) (An (o49 hpre y0 j2 hj2 hp2 y39) (Ak 1 (fun (i43:Env)=>tv))))) (Ak 2 tv))) ?_
    refine swp_seq ?_
    refine swp_seq ?_
    refine zR [3,4,7,8,9,10,38,39,40] [56,5000,6120] (Ak 3 tv) ?_
    refine swp_block ?_
    refine zL (Hint.ann (h128 f rooms left j2) [(3,AV.rp (cFrm f)),(4,AV.rp [aSpans rooms]),(7,AV.ptr 56 []),(8,AV.vec 5000),(38,AV.vec 5000),(39,iv (↑((setN left j2).length):Int))] [(56,OB.cells 108 [AV.opt (Option.isSome (bestP f rooms left j2)) (cLay (bestP f rooms left j2))]),(5000,OB.vec 3 1 (setN left j2).length fun (i:Nat)=>[iv ((setN left j2).getD i 0)])] 16168) (zEn 6000 hE [] [(56,.same 56),(5000,.same 5000),(6001,.same 6120)] [3,4,39] [56,5000] (An (An (An (zr (AV.rp (cFrm f))) (zr true)) (An (An (zr (AV.rp [aSpans rooms])) (zr true)) (An (An (zr (some (Src.same 56))) (zr nilP)) (An (zr (some (Src.same 5000))) (An (zr (some (Src.same 5000))) (An (An (zr (iv (↑((setN left j2).length):Int))) (zr true)) (An (zr (some (Src.same 6120))) (An (An (ci (o50 hpre y0 j2 hj2 hp2 y39)) (zr nilN)) (An (An (ci (o51 hpre y0 j2 hj2 hp2 y39)) (zr nilN)) tv))))))))) (An (An (An (zr (OB.cells 108 [AV.opt (Option.isSome (bestP f rooms left j2)) (cLay (bestP f rooms left j2))])) (zr true)) (An (An (zr (OB.vec 3 1 (setN left j2).length fun (i:Nat)=>[iv ((setN left j2).getD i 0)])) (zr true)) (An (An (zr 3) (An (zr 1) (An (zr left.length) (fun (i45:Nat)=>(fun (y46:i45 < left.length)=>(o52 hpre y0 j2 hj2 hp2 y39 i45 y46)))))) tv))) (An (zr true) (zr true))))) (o53 hpre y0 j2 hj2 hp2 y39) (fun (x44:Nat) hx44 => ?_)
    refine swp_seq ?_
    refine zR [3,4,7,8,38,39,9,10,40,41] [56,5000,6001] (Ak 1 tv) ?_
    refine swp_seq ?_
    refine zI (decide ((x44:Int) < (↑((setN left j2).length):Int))) (fun y47 => ?_) (fun y47 => ?_)
    ·refine swp_skip ?_
     refine swp_seq ?_
     refine swp_block ?_
     refine swp_seq ?_
     refine zR [3,4,7,8,38,39,9,10,40,11,12] [56,5000,6001] (Ak 1 (An (An (o54 hpre y0 j2 hj2 hp2 y39 x44 hx44 y47) (o55 hpre y0 j2 hj2 hp2 y39 x44 hx44 y47)) (An (An (o56 hpre y0 j2 hj2 hp2 y39 x44 hx44 y47) tv) (Ak 2 tv)))) ?_
     refine swp_seq ?_
     refine zR [3,4,7,8,38,39,9,10,40,12] [56,5000,6001] (Ak 2 (An (An (o57 hpre y0 j2 hj2 hp2 y39 x44 hx44 y47) (o58 hpre y0 j2 hj2 hp2 y39 x44 hx44 y47)) (An (An (o59 hpre y0 j2 hj2 hp2 y39 x44 hx44 y47) tv) (Ak 1 (An (o60 hpre y0 j2 hj2 hp2 y39 x44 hx44 y47) (An (An (o61 hpre y0 j2 hj2 hp2 y39 x44 hx44 y47) (o62 hpre y0 j2 hj2 hp2 y39 x44 hx44 y47)) (An (An (o63 hpre y0 j2 hj2 hp2 y39 x44 hx44 y47) tv) tv))))))) ?_
     refine zR [3,4,7,8,38,39,9,10,40] [56,5000,6001] (Ak 2 (An (o64 hpre y0 j2 hj2 hp2 y39 x44 hx44 y47) (Ak 1 tv))) ?_
     refine zR [3,4,7,8,38,39,9,10,40] [56,5000,6001] (An (o65 hpre y0 j2 hj2 hp2 y39 x44 hx44 y47) (Ak 1 tv)) ?_
     exact zn (zEn 6000 hE [] [(56,.same 56),(5000,.same 5000),(6001,.same 6001)] [3,4,39] [56,5000] (An (An (An (zr (AV.rp (cFrm f))) (zr true)) (An (An (zr (AV.rp [aSpans rooms])) (zr true)) (An (An (zr (some (Src.same 56))) (zr nilP)) (An (zr (some (Src.same 5000))) (An (zr (some (Src.same 5000))) (An (An (zr (iv (↑((setN left j2).length):Int))) (zr true)) (An (zr (some (Src.same 6001))) (An (An (ci (o66 hpre y0 j2 hj2 hp2 y39 x44 hx44 y47)) (zr nilN)) (An (An (ci (o67 hpre y0 j2 hj2 hp2 y39 x44 hx44 y47)) (zr nilN)) tv))))))))) (An (An (An (zr (OB.cells 108 [AV.opt (Option.isSome (bestP f rooms left j2)) (cLay (bestP f rooms left j2))])) (zr true)) (An (An (zr (OB.vec 3 1 (setN left j2).length fun (i:Nat)=>[iv ((setN left j2).getD i 0)])) (zr true)) (An (An (zr 3) (An (zr 1) (An (zr left.length) (fun (i48:Nat)=>(fun (y49:i48 < left.length)=>(o68 hpre y0 j2 hj2 hp2 y39 x44 hx44 y47 i48 y49)))))) tv))) (An (zr true) (zr true))))) (o69 hpre y0 j2 hj2 hp2 y39 x44 hx44 y47) (o70 hpre y0 j2 hj2 hp2 y39 x44 hx44 y47)
    ·refine swp_exit ?_
     refine swp_seq ?_
     refine zC ([(4,CallSpec.eq (c128r f rooms left j2) [true,false,false])]) [7,8,10,13] [56,5000] (Ak 2 (An (An (by decide:Int.ofNat 0<=Int.ofNat 1) (o71 hpre y0 j2 hj2 hp2 y39 x44 hx44 y47)) (Ak 1 (An (An (An (zr (AV.agg (cFrm f))) (An (An (zr 2) (An (o72 hpre y0 j2 hj2 hp2 y39 x44 hx44 y47) (fun (i50:Nat)=>(fun (y51:i50 < (List.drop 1 rooms).length)=>(o73 hpre y0 j2 hj2 hp2 y39 x44 hx44 y47 i50 y51))))) (An (An (zr 1) (An (o74 hpre y0 j2 hj2 hp2 y39 x44 hx44 y47) (fun (i52:Nat)=>(fun (y53:i52 < (restL left (setN left j2)).length)=>(o75 hpre y0 j2 hj2 hp2 y39 x44 hx44 y47 i52 y53))))) tv))) (An (o76 hpre y0 j2 hj2 hp2 y39 x44 hx44 y47) (An (An hpre.1 (An (o77 hpre y0 j2 hj2 hp2 y39 x44 hx44 y47) (o78 hpre y0 j2 hj2 hp2 y39 x44 hx44 y47))) (Ak 1 (fun (i54:Env)=>tv))))) (Ak 1 tv))))) ?_
     refine swp_seq ?_
     refine zR [7,8,10,13,79] [56,5000] (Ak 3 (An (fun (y55:(!!Option.isSome (lockP f (List.drop 1 rooms) (restL left (setN left j2))))=true)=>(An (Ak 1 tv) tv)) (An (fun (y56:(!!Option.isSome (lockP f (List.drop 1 rooms) (restL left (setN left j2))))=true)=>(An (An (fun (y57:(!!Option.isSome (lockP f (List.drop 1 rooms) (restL left (setN left j2))))=true)=>y56) (Ak 1 tv)) tv)) (An (fun (y58:(!!Option.isSome (lockP f (List.drop 1 rooms) (restL left (setN left j2))))=true)=>(An (An (fun (y59:(!!Option.isSome (lockP f (List.drop 1 rooms) (restL left (setN left j2))))=true)=>y58) tv) tv)) (An (fun (y60:(!!Option.isSome (lockP f (List.drop 1 rooms) (restL left (setN left j2))) && !!Option.isSome (bestP f rooms left j2))=true)=>(An (Ak 1 tv) tv)) (An (fun (y61:(!!Option.isSome (lockP f (List.drop 1 rooms) (restL left (setN left j2))) && !!Option.isSome (bestP f rooms left j2))=true)=>(An (Ak 1 tv) tv)) (An (fun (y62:(!!Option.isSome (lockP f (List.drop 1 rooms) (restL left (setN left j2))) && !!Option.isSome (bestP f rooms left j2))=true)=>(An (An (fun (y63:(!!Option.isSome (lockP f (List.drop 1 rooms) (restL left (setN left j2))) && !!Option.isSome (bestP f rooms left j2))=true)=>y62) tv) (o79 hpre y0 j2 hj2 hp2 y39 x44 hx44 y47 y62))) (An (fun (y64:(!!Option.isSome (lockP f (List.drop 1 rooms) (restL left (setN left j2))) && !!Option.isSome (bestP f rooms left j2))=true)=>(An (An (fun (y65:(!!Option.isSome (lockP f (List.drop 1 rooms) (restL left (setN left j2))) && !!Option.isSome (bestP f rooms left j2))=true)=>y64) tv) (o80 hpre y0 j2 hj2 hp2 y39 x44 hx44 y47 y64))) (An (fun (y66:(!!Option.isSome (lockP f (List.drop 1 rooms) (restL left (setN left j2))) && !!Option.isSome (bestP f rooms left j2))=true)=>(An (An (fun (y67:(!!Option.isSome (lockP f (List.drop 1 rooms) (restL left (setN left j2))) && !!Option.isSome (bestP f rooms left j2))=true)=>y66) tv) tv)) (An (fun (y68:(!!Option.isSome (lockP f (List.drop 1 rooms) (restL left (setN left j2))) && !!Option.isSome (bestP f rooms left j2))=true)=>(An (An (fun (y69:(!!Option.isSome (lockP f (List.drop 1 rooms) (restL left (setN left j2))) && !!Option.isSome (bestP f rooms left j2))=true)=>y68) (An (fun (y70:(!!Option.isSome (lockP f (List.drop 1 rooms) (restL left (setN left j2))) && !!Option.isSome (bestP f rooms left j2))=true)=>y68) tv)) (o81 hpre y0 j2 hj2 hp2 y39 x44 hx44 y47 y68))) (An (fun (y71:(!!Option.isSome (lockP f (List.drop 1 rooms) (restL left (setN left j2))) && !!Option.isSome (bestP f rooms left j2))=true)=>(An (Ak 1 tv) tv)) (An (fun (y72:(!!Option.isSome (lockP f (List.drop 1 rooms) (restL left (setN left j2))) && !!Option.isSome (bestP f rooms left j2))=true)=>(An (An (fun (y73:(!!Option.isSome (lockP f (List.drop 1 rooms) (restL left (setN left j2))) && !!Option.isSome (bestP f rooms left j2))=true)=>y72) tv) (o82 hpre y0 j2 hj2 hp2 y39 x44 hx44 y47 y72))) (An (fun (y74:(!!Option.isSome (lockP f (List.drop 1 rooms) (restL left (setN left j2))) && !!Option.isSome (bestP f rooms left j2))=true)=>(An (An (fun (y75:(!!Option.isSome (lockP f (List.drop 1 rooms) (restL left (setN left j2))) && !!Option.isSome (bestP f rooms left j2))=true)=>y74) tv) (o83 hpre y0 j2 hj2 hp2 y39 x44 hx44 y47 y74))) (An (fun (y76:(!!Option.isSome (lockP f (List.drop 1 rooms) (restL left (setN left j2))) && !!Option.isSome (bestP f rooms left j2))=true)=>(An (An (fun (y77:(!!Option.isSome (lockP f (List.drop 1 rooms) (restL left (setN left j2))) && !!Option.isSome (bestP f rooms left j2))=true)=>y76) tv) tv)) (An (fun (y78:(!!Option.isSome (lockP f (List.drop 1 rooms) (restL left (setN left j2))) && !!Option.isSome (bestP f rooms left j2))=true)=>(An (An (fun (y79:(!!Option.isSome (lockP f (List.drop 1 rooms) (restL left (setN left j2))) && !!Option.isSome (bestP f rooms left j2))=true)=>y78) (An (fun (y80:(!!Option.isSome (lockP f (List.drop 1 rooms) (restL left (setN left j2))) && !!Option.isSome (bestP f rooms left j2))=true)=>y78) tv)) tv)) (An (fun (y81:(!!Option.isSome (lockP f (List.drop 1 rooms) (restL left (setN left j2))))=true)=>(An (An (fun (y82:(!!Option.isSome (lockP f (List.drop 1 rooms) (restL left (setN left j2))))=true)=>y81) tv) (An (fun (y83:(!Option.isSome (bestP f rooms left j2))=true)=>tv) (fun (y84:(!Option.isSome (bestP f rooms left j2))=false)=>(o84 hpre y0 j2 hj2 hp2 y39 x44 hx44 y47 y81 y84))))) (An (An (fun (y85:(!!Option.isSome (lockP f (List.drop 1 rooms) (restL left (setN left j2))))=true)=>y85) (fun (y86:(!!Option.isSome (lockP f (List.drop 1 rooms) (restL left (setN left j2))))=false)=>tv)) tv))))))))))))))))) ?_
     refine zI (bif !!Option.isSome (lockP f (List.drop 1 rooms) (restL left (setN left j2))) then bif !Option.isSome (bestP f rooms left j2) then true else decide (sumTo (setN left j2) x44 + layM (lockP f (List.drop 1 rooms) (restL left (setN left j2))) < layM (bestP f rooms left j2)) else false) (fun y87 => ?_) (fun y87 => ?_)
     ·refine zC ([(1,CallSpec.eq (c128d f rooms left j2) [true]),(15,focB)]) [] [56,5000] (Ak 1 (An (An (An (zr (AV.vec 5000)) tv) (An (lendT 3 5000 0 (none) (t126o (setN left j2) (16384))) (An (o85 hpre y0 j2 hj2 hp2 y39 x44 hx44 y47 y87) (An (An (zr (some (OB.vec 3 1 (setN left j2).length fun (i:Nat)=>[iv ((setN left j2).getD i 0)]))) tv) (fun (i88:Env)=>tv))))) (Ak 2 (An (o86 hpre y0 j2 hj2 hp2 y39 x44 hx44 y47 y87) (An (o87 hpre y0 j2 hj2 hp2 y39 x44 hx44 y47 y87) (Ak 1 (An (o88 hpre y0 j2 hj2 hp2 y39 x44 hx44 y47 y87) (Ak 2 (An (o89 hpre y0 j2 hj2 hp2 y39 x44 hx44 y47 y87) (An (o90 hpre y0 j2 hj2 hp2 y39 x44 hx44 y47 y87) (Ak 1 (An (o91 hpre y0 j2 hj2 hp2 y39 x44 hx44 y47 y87) (Ak 3 tv))))))))))))) ?_
      exact zN 1006000 (zEn 6000 hE [] [(56,.same 56),(5000,.same 5000)] [] [5000] (Ak 1 (An (An (An (zr 108) (An (An (An (o92 hpre y0 j2 hj2 hp2 y39 x44 hx44 y47 y87) (An (An (zr 1) (An (o93 hpre y0 j2 hj2 hp2 y39 x44 hx44 y47 y87) (fun (i89:Nat)=>(fun (y90:i89 < (layS (bestP f rooms left (j2 + 1))).length)=>(o94 hpre y0 j2 hj2 hp2 y39 x44 hx44 y47 y87 i89 y90))))) (An (ci (o95 hpre y0 j2 hj2 hp2 y39 x44 hx44 y47 y87)) tv))) tv) (zr true))) (An (An (zr (OB.vec 3 1 (setN left j2).length fun (i:Nat)=>[iv ((setN left j2).getD i 0)])) (zr true)) tv)) (An (zr true) (zr true)))))
     ·refine swp_skip ?_
      exact zN 1006000 (zEn 6000 hE [] [(56,.same 56),(5000,.same 5000)] [] [5000] (Ak 1 (An (An (An (zr 108) (An (An (An (o96 hpre y0 j2 hj2 hp2 y39 x44 hx44 y47 y87) (fun (y91:Option.isSome (bestP f rooms left (j2 + 1))=true)=>(An (An (zr 1) (An (o97 hpre y0 j2 hj2 hp2 y39 x44 hx44 y47 y87 y91) (fun (i92:Nat)=>(fun (y93:i92 < (layS (bestP f rooms left (j2 + 1))).length)=>(o98 hpre y0 j2 hj2 hp2 y39 x44 hx44 y47 y87 y91 i92 y93))))) (An (ci (o99 hpre y0 j2 hj2 hp2 y39 x44 hx44 y47 y87 y91)) tv)))) tv) (zr true))) (An (An (zr (OB.vec 3 1 (setN left j2).length fun (i:Nat)=>[iv ((setN left j2).getD i 0)])) (zr true)) tv)) (An (zr true) (zr true)))))
  ·refine swp_seq ?_
   refine zR [6] [] (Ak 2 tv) ?_
   refine swp_ret ?_
   exact zT [] (An (Ak 1 tv) (An (An (o100 hpre y0) (fun (y94:Option.isSome (lockP f rooms left)=true)=>(An (An (zr 1) (An (o101 hpre y0 y94) (fun (i95:Nat)=>(fun (y96:i95 < (layS (lockP f rooms left)).length)=>(o102 hpre y0 y94 i95 y96))))) (An (ci (o103 hpre y0 y94)) tv)))) (An (zr true) (An (zr true) (zr true)))))
theorem t128' (f:Frm):∀ (n:Nat) (rooms:List Span) (left:List Int),rooms.length=n->Triple Try.prog 128 (s128 f rooms left):=by
 intro n
 induction n using Nat.strongRecOn with
 | _ n ih =>
  intro rooms left hn
  apply w128
  all_goals (first | ((repeat intro _) <;> (try simp only [Bool.cond_true_left,Bool.cond_false_right,Bool.not_not,Bool.not_eq_true',Bool.not_eq_false',Bool.or_eq_true,Bool.or_eq_false_iff,Bool.and_eq_true,decide_eq_true_eq,decide_eq_false_iff_not,inI,big,fitsF,smallF,goodL] at *) <;> first | (exact rfl) | omega | (exact ⟨Nat.zero_le _,fun j hj=>absurd hj (Nat.not_lt_zero j)⟩) | (simp_all; done) | (simp_all; omega)) | skip)
  all_goals (intro hp hr; obtain ⟨hs,hg,hrl⟩:=hp)
  case o0 | o1 | o2 =>
   have e:rooms = []:=List.eq_nil_of_length_eq_zero (by simpa using hr)
   subst e; rfl
  all_goals (have hr0:rooms.length ≠ 0:=by simpa using hr)
  all_goals (have hsh:=hg.short hs)
  case o100=>rw [lock_best hr0]
  case o101 | o103=>intro _; rw [lock_best hr0]
  case o102=>intro _ i _; rw [lock_best hr0]
  case o4=>omega
  case o6=>rw [setN_len]
  case o7=>intro i _; rw [setN_zero]
  case o8=>exact prodL_pos _
  case o9=>intro x hx; rw [setN_len]; exact ⟨by omega,by omega⟩
  case o10=>intro x hx; rw [setN_len]; omega
  case o11=>exact fun x hx=>setN_len _ _
  case o12=>intro x hx i hi; rw [setN_len] at hi; rw [rowO_all (by omega)]
  case o42=>exact fun j hj _=>hg.isSet hj
  case o45=>intro j hj _ hw; rw [best_out hw]
  case o46 | o48=>intro j hj _ hw _; rw [best_out hw]
  case o47=>intro j hj _ hw _ i _; rw [best_out hw]
  case o49=>intro j hj _ hw; omega
  case o22 =>
   intro x hx n hn hc; obtain ⟨hn1,hn2⟩:=hn
   have hk:=of_decide_eq_true (bif_l hc)
   exact ⟨by omega,by omega⟩
  case o24 =>
   intro x hx n hn hc; obtain ⟨hn1,hn2⟩:=hn
   have hk:=of_decide_eq_true (bif_l hc)
   intro q hq
   refine rec_ei (fun h => ?_) (fun h => ?_)
   ·by_cases c:(q:Int)<=(left.length:Int) - 1 - n
    ·rw [rowO_all c,rowO_all (by omega)]
    ·rw [rowO_no c,rowO_no (by omega)]
   ·rw [rowO_no (by omega)]; rfl
  case o25 =>
   intro x hx n hn hc; obtain ⟨hn1,hn2⟩:=hn
   have hk:=of_decide_eq_true (bif_l hc)
   rw [decide_eq_true hk] at hc
   have hc':=of_decide_eq_true hc
   rw [rowO_all (by omega)] at hc'
   refine ⟨by omega,fun q h1 h2 => ?_⟩
   by_cases c:left.length - n<=q
   ·exact hn2 q c h2
   ·have:q=((left.length:Int) - 1 - n).toNat:=by omega
    rw [this]; exact hc'
  case o27 | o28 | o29 | o30 =>
   intro x hx n hn hc h2; simp only [decide_eq_true_eq] at h2; have e:=full_end hg hx hn.2 (by omega); rw [e]
   try ((repeat intro _); rfl)
  case o34 =>
   intro x hx n hn hc h2; obtain ⟨hn1,hn2⟩:=hn; simp only [decide_eq_false_iff_not] at h2
   have hk:0<=(left.length:Int) - 1 - n:=by omega
   rw [decide_eq_true hk] at hc; have hc':=of_decide_eq_false hc; rw [rowO_all (by omega)] at hc'
   have ek:((left.length:Int) - 1 - n).toNat=left.length - 1 - n:=by omega
   rw [ek] at hc'; obtain ⟨g1,g2⟩:=setN_next hg.nonneg hx (k:=left.length - 1 - n) (by omega) (fun q h1 h2=>hn2 q (by omega) h2) hc'
   rw [ek,rowO_all (by omega)]
   have h3:=hg.set hx (left.length - 1 - n) (by omega)
   have h4:=hg.small hs (left.length - 1 - n) (by omega)
   exact ⟨by omega,by omega⟩
  case o38 =>
   intro x hx n hn hc h2; obtain ⟨hn1,hn2⟩:=hn; simp only [decide_eq_false_iff_not] at h2
   have hk:0<=(left.length:Int) - 1 - n:=by omega
   rw [decide_eq_true hk] at hc; have hc':=of_decide_eq_false hc; rw [rowO_all (by omega)] at hc'
   have ek:((left.length:Int) - 1 - n).toNat=left.length - 1 - n:=by omega
   rw [ek] at hc'; obtain ⟨g1,g2⟩:=setN_next hg.nonneg hx (k:=left.length - 1 - n) (by omega) (fun q h1 h2=>hn2 q (by omega) h2) hc'
   rw [setN_len]
  case o40 =>
   intro x hx n hn hc h2; obtain ⟨hn1,hn2⟩:=hn; simp only [decide_eq_false_iff_not] at h2
   have hk:0<=(left.length:Int) - 1 - n:=by omega
   rw [decide_eq_true hk] at hc; have hc':=of_decide_eq_false hc; rw [rowO_all (by omega)] at hc'
   have ek:((left.length:Int) - 1 - n).toNat=left.length - 1 - n:=by omega
   rw [ek] at hc'; obtain ⟨g1,g2⟩:=setN_next hg.nonneg hx (k:=left.length - 1 - n) (by omega) (fun q h1 h2=>hn2 q (by omega) h2) hc'
   exact g1
  case o39 =>
   intro x hx n hn hc h2; obtain ⟨hn1,hn2⟩:=hn; simp only [decide_eq_false_iff_not] at h2
   have hk:0<=(left.length:Int) - 1 - n:=by omega
   rw [decide_eq_true hk] at hc; have hc':=of_decide_eq_false hc; rw [rowO_all (by omega)] at hc'
   have ek:((left.length:Int) - 1 - n).toNat=left.length - 1 - n:=by omega
   rw [ek] at hc'; obtain ⟨g1,g2⟩:=setN_next hg.nonneg hx (k:=left.length - 1 - n) (by omega) (fun q h1 h2=>hn2 q (by omega) h2) hc'
   intro q hq
   rw [g2 q hq,ek]
   refine rec_ei (fun h => ?_) (fun h => ?_)
   ·rw [if_neg h]
    by_cases c:q < left.length - 1 - n
    ·rw [if_pos c,rowO_all (by omega)]
    ·rw [if_neg c,rowO_no (by omega)]
   ·rw [if_pos h,h,rowO_all (by omega)]; rfl
  all_goals (intro j hj _ hw x hx hl; rw [setN_len] at hl; simp only [decide_eq_true_eq,decide_eq_false_iff_not] at hl)
  all_goals (have hb:=sumTo_in hg hs hj x hx)
  case o58 | o59 | o62 | o63 | o69 | o70=>all_goals omega
  case o65=>exact ⟨by omega,by omega⟩
  case o66=>rw [sumTo_succ]
  case o60 =>
   have h3:=hg.set hj x (by omega); have h4:=hg.small hs x (by omega)
   unfold restQ; rw [if_neg (by omega)]; exact ⟨by omega,by omega⟩
  case o64 =>
   have h3:=hg.set hj x (by omega); have h4:=hg.small hs x (by omega)
   exact ⟨by omega,by omega⟩
  case o68 =>
   have h3:=hg.set hj x (by omega); have h4:=hg.small hs x (by omega)
   intro q hq
   unfold restQ
   refine rec_ei (fun h => ?_) (fun h => ?_)
   ·by_cases c:q < x
    ·rw [if_pos c,if_pos (by omega)]
    ·rw [if_neg c,if_neg (by omega)]
   ·rw [if_neg (by omega),if_pos (by omega),h]; rfl
  case o73=>intro i hi; simp [List.getD_eq_getElem?_getD,List.getElem?_drop,Nat.add_comm]
  case o74=>rw [restL_len]
  case o75=>intro i hi; rw [restL_len] at hi; rw [restL_get hi]; unfold restQ; rw [if_pos (by omega)]
  case o76=>exact ih (rooms.drop 1).length (by rw [List.length_drop]; omega) _ _ rfl
  case o77=>exact hg.rest hj
  all_goals (have hok:=lock_ok hs (rooms.drop 1) _ (hg.rest hj); have hm:=layM_in hok; have hll:=layS_len hok; have hdl:(rooms.drop 1).length=rooms.length - 1:=List.length_drop)
  all_goals (intro hc)
  case o81 | o91=>all_goals exact ⟨by omega,by omega⟩
  case o85=>rw [setN_len]; omega
  case o88=>omega
  all_goals (have ex:x=(setN left j).length:=by rw [setN_len]; omega)
  all_goals subst ex
  case o92 =>
   have e:=best_new hw hc; rw [e]
   rfl
  case o93 =>
   have e:=best_new hw hc; rw [e]
   exact Nat.add_comm _ _
  case o94 =>
   have e:=best_new hw hc; rw [e]
   intro i hi
   cases i with
   | zero=>rfl
   | succ i=>unfold catF; rw [if_neg (by omega)]; rfl
  case o95 =>
   have e:=best_new hw hc; rw [e]
   rfl
  all_goals (have e:=best_old hw hc; rw [e])
  all_goals ((repeat intro _); rfl)
theorem t128 (f:Frm) (rooms:List Span) (left:List Int):Triple Try.prog 128 (s128 f rooms left):=t128' f _ rooms left rfl
end Go.Ab
namespace Go.Sh
open Go.Ab
def roomsTo (f:Frm) (w:Int) (n:Nat):List Span:=(List.range n).map fun c=>roomP f (highP f (delW (col f c) (bitP w)))
def stockTo (f:Frm) (n:Nat):List Int:=(List.range n).map fun i=>(stp f i).many
def wholeP (f:Frm) (w:Int):Lay:=lockP f (roomsTo f w f.columns.length) (stockTo f f.strips.length)
def stripsN (f:Frm):Int:=if okFrm f then layM (wholeP f 0) else 0
def stripsE (f:Frm):Int:=if okFrm f then (if (wholeP f 0).isSome then 0 else 3) else 30
def gateC (f:Frm) (c:Int):Bool:=okFrm f && isCol f c
def roomC (f:Frm) (c:Int):Span:=roomP f (highP f (col f c.toNat))
def roomR (f:Frm) (c:Int):Span:=if gateC f c then (if (roomC f c).hi < (roomC f c).lo then ⟨0,0⟩ else roomC f c) else ⟨0,0⟩
def roomE (f:Frm) (c:Int):Int:=if gateC f c then (if (roomC f c).hi < (roomC f c).lo then 3 else 0) else openF f (isCol f c)
def fitsV (f:Frm) (h:Span) (n:Int):Int:=if within n (roomP f h).lo (roomP f h).hi then 1 else if decide (h.hi + n < f.length - f.slack) || decide (f.length < h.lo + n) then 2 else 3
def fitsG (f:Frm) (c:Int) (set:List Int):Bool:=isCol f c && isSet f set
def fitsP (f:Frm) (c:Int) (set:List Int):Int:=if okFrm f && fitsG f c set then fitsV f (highP f (col f c.toNat)) (pointsP f set) else 0
def idxI (l:List Int) (p:Int):Int:=idxW l (fun w=>decide (p=w))
def aboveTo (f:Frm) (p:Int) (n:Nat):Option Nat:=(List.range n).find? fun c=>decide (0<=idxI (col f c) p)
def aboveN (f:Frm) (p:Int):Option Nat:=aboveTo f p f.columns.length
def aboveC (f:Frm) (p:Int):Int:=match aboveN f p with | some c=>c | none => -1
def aboveL (f:Frm) (p:Int):List Int:=match aboveN f p with | some c=>(col f c).take (idxI (col f c) p).toNat | none=>[]
def sameN (f:Frm) (one other:Int):Nat:=min (aboveL f one).length (aboveL f other).length
def gapU (f:Frm) (one other x:Int):List Int:=if aboveC f one=aboveC f other then (aboveL f x).drop (sameN f one other) else aboveL f x
def gapP (f:Frm) (one other:Int):Span:=⟨(highP f (gapU f one other other)).lo - (highP f (gapU f one other one)).hi,(highP f (gapU f one other other)).hi - (highP f (gapU f one other one)).lo⟩
def gapG (f:Frm) (one other:Int):Bool:=isPc f one && isPc f other
def gapR (f:Frm) (one other:Int):Span:=if okFrm f && gapG f one other then gapP f one other else ⟨0,0⟩
end Go.Sh
namespace Go.Ab
open Go Go.RowKit Go.Proofs Go.Sh Go.En
def s90 (f:Frm) (w:Int):CallSpec:={ args:=[vFrm f,iv w],res:=vLay (wholeP f w),pre:=Sound f/\0<=w/\w<=1000 }
def h90a (f:Frm) (w:Int):Hint:={ X:=Nat,M:=fun n=>[(5,.vec 5000),(16,iv n)],H:=fun n=>[(5000,.vec 36 2 n (fun i=>cSpan ((roomsTo f w n).getD i ⟨0,0⟩)))],I:=fun n=>n<=f.columns.length,mu:=fun n=>f.columns.length - n,x0:=(0:Nat),nx:=fun n=>n + 1 }
def h90b (f:Frm) (w:Int):Hint:={ X:=Nat,M:=fun n=>[(9,.vec 5001),(37,iv n)],H:=fun n=>[(5001,.vec 3 1 n (fun i=>[iv ((stockTo f n).getD i 0)]))],I:=fun n=>n<=f.strips.length,mu:=fun n=>f.strips.length - n,x0:=(0:Nat),nx:=fun n=>n + 1 }
def c90c (f:Frm) (w:Int) (n:Nat):CallSpec:=s126o (col f n) 10112
def c90d (f:Frm) (w:Int) (n:Nat):CallSpec:=s125 10112 (col f n) (bitP w)
def c90l (f:Frm) (w:Int):CallSpec:=s128 f (roomsTo f w f.columns.length) (stockTo f f.strips.length)
def s59 (f:Frm):CallSpec:={ args:=[vFrm f],res := .tup [iv (stripsN f),iv (stripsE f)],pre:=smallF f }
def s22 (f:Frm) (c:Int):CallSpec:={ args:=[vFrm f,iv c],res := .tup [vSpan (roomR f c),iv (roomE f c)],pre:=smallF f }
def s36 (f:Frm) (c:Int) (set:List Int):CallSpec:={ args:=[vFrm f,iv c,aInts set],res := .tup [iv (fitsP f c set),iv (openF f (fitsG f c set))],pre:=smallF f/\set.length<=64 }
def s154 (ws:List Int) (p:Int):CallSpec:={ args:=[aInts ws,iv p],res:=iv (idxI ws p),pre:=ws.length<=65536 }
def h154 (ws:List Int) (p:Int):Hint:={ X:=Nat,M:=fun i=>[(8,iv i)],I:=fun i=>i<=ws.length /\ ∀ j,j < i->decide (p=ws.getD j 0)=false,mu:=fun i=>ws.length - i,x0:=(0:Nat),nx:=fun i=>i + 1 }
def s133 (f:Frm) (p:Int):CallSpec:={ args:=[vFrm f,iv p],res := .tup [iv (aboveC f p),aInts (aboveL f p)],pre:=Sound f }
def h133 (f:Frm) (p:Int):Hint:={ X:=Nat,M:=fun i=>[(13,iv i)],I:=fun i=>i<=f.columns.length/\aboveTo f p i=none,mu:=fun i=>f.columns.length - i,x0:=(0:Nat),nx:=fun i=>i + 1 }
def s104 (f:Frm) (one other:Int):CallSpec:={ args:=[vFrm f,iv one,iv other],res:=vSpan (gapP f one other),pre:=Sound f }
def c104u (f:Frm) (one other:Int):CallSpec:=s86 f (gapU f one other one)
def c104d (f:Frm) (one other:Int):CallSpec:=s86 f (gapU f one other other)
def s48 (f:Frm) (one other:Int):CallSpec:={ args:=[vFrm f,iv one,iv other],res := .tup [vSpan (gapR f one other),iv (openF f (gapG f one other))],pre:=smallF f }
end Go.Ab
namespace Go.Sh
open Go.Ab
variable {f:Frm}
theorem gate_bad {b:Bool} (h:(!decide (openF f b=0))=true):(okFrm f && b)=false:=by
 simp only [Bool.not_eq_true',decide_eq_false_iff_not] at h
 unfold openF at h
 cases e:okFrm f with
 | false=>rfl
 | true =>
  cases b with
  | false=>rfl
  | true=>exact absurd (by simp [e]) h
theorem gate_ok {b:Bool} (h:(!decide (openF f b=0))=false):okFrm f=true/\b=true/\openFr f b=f/\Sound f/\openF f b=0:=by
 simp only [Bool.not_eq_false',decide_eq_true_eq] at h
 have h0:=h
 unfold openF at h
 cases e:okFrm f with
 | false=>rw [e] at h; simp at h
 | true =>
  cases b with
  | false=>rw [e] at h; simp at h
  | true=>exact ⟨rfl,rfl,okFr_open e,sound_of e,h0⟩
theorem small_fits (h:smallF f):fitsF f:=by
 obtain ⟨h1,h2,h3,h4⟩:=h
 have hb:64<=big:=by unfold big; omega
 exact ⟨by omega,by omega,by omega,fun i=>Nat.le_trans (h4 i) hb⟩
theorem lay_none {b:Lay} (h:(!b.isSome)=true):b=none:=by cases b <;> first | rfl | cases h
theorem lay_some {b:Lay} (h:(!b.isSome)=false):b.isSome=true:=by cases b <;> first | rfl | cases h
theorem bif_or (a b:Bool):(bif a then true else b)=(a || b):=by cases a <;> rfl
theorem nt_ {b:Bool} (h:b=false):¬ b=true:=by rw [h]; exact Bool.false_ne_true
theorem bif_and (a b:Bool):(bif a then b else false)=(a && b):=by cases a <;> rfl
theorem goodL_mem {l:List Int} (h:l.length<=6) (h1:∀ w,w ∈ l->0<=w/\w < f.pieces.length):goodL f l:=⟨h,fun k hk=>h1 _ (getD_mem l 0 hk)⟩
theorem mem_goodL {l:List Int} (h:goodL f l):∀ w,w ∈ l->0<=w/\w < f.pieces.length:=by
 intro w hw
 obtain ⟨i,hi,e⟩:=List.getElem_of_mem hw
 have:=h.2 i hi
 rw [getD_lt _ _ hi,e] at this; exact this
theorem goodL_del {l:List Int} (h:goodL f l) (P:Int->Bool):goodL f (delW l P) :=
 goodL_mem (Nat.le_trans (List.length_filter_le _ _) h.1) (fun w hw=>mem_goodL h w (List.mem_filter.1 hw).1)
theorem goodL_take {l:List Int} (h:goodL f l) (n:Nat):goodL f (l.take n) :=
 goodL_mem (by rw [List.length_take]; have:=h.1; omega) (fun w hw=>mem_goodL h w (List.mem_of_mem_take hw))
theorem goodL_drop {l:List Int} (h:goodL f l) (n:Nat):goodL f (l.drop n) :=
 goodL_mem (by rw [List.length_drop]; have:=h.1; omega) (fun w hw=>mem_goodL h w (List.mem_of_mem_drop hw))
theorem goodL_nil:goodL f []:=⟨Nat.zero_le _,fun k hk=>absurd hk (Nat.not_lt_zero _)⟩
theorem rooms_len (f:Frm) (w:Int) (n:Nat):(roomsTo f w n).length=n:=by unfold roomsTo; rw [List.length_map,List.length_range]
theorem rooms_succ (f:Frm) (w:Int) (n:Nat):roomsTo f w (n + 1)=roomsTo f w n ++ [roomP f (highP f (delW (col f n) (bitP w)))]:=by unfold roomsTo; rw [List.range_succ,List.map_append]; rfl
theorem stock_len (f:Frm) (n:Nat):(stockTo f n).length=n:=by unfold stockTo; rw [List.length_map,List.length_range]
theorem stock_succ (f:Frm) (n:Nat):stockTo f (n + 1)=stockTo f n ++ [(stp f n).many]:=by unfold stockTo; rw [List.range_succ,List.map_append]; rfl
theorem stock_get {n i:Nat} (h:i < n):(stockTo f n).getD i 0=(stp f i).many:=by
 rw [getD_lt _ _ (by rw [stock_len]; exact h)]; unfold stockTo; rw [List.getElem_map,List.getElem_range]
theorem stock_good (hs:Sound f):GoodLeft f (stockTo f f.strips.length):=by
 refine ⟨stock_len _ _,fun q hq => ?_⟩
 rw [stock_len] at hq
 rw [stock_get hq]
 exact ⟨(hs.strip q hq).2.2.1,Int.le_refl _⟩
theorem col_elem (hs:Sound f) {c:Nat} {w:Int} (h:w ∈ col f c):0<=w/\w<=62:=by
 have:=mem_goodL (col_good hs c) w h
 have:=hs.pieces
 omega
theorem isCol_get {c:Int} (h:isCol f c=true):0<=c/\c < f.columns.length:=by
 unfold isCol within at h
 simp only [Bool.and_eq_true,decide_eq_true_eq] at h
 omega
theorem isPc_get {c:Int} (h:isPc f c=true):0<=c/\c < f.pieces.length:=by
 unfold isPc within at h
 simp only [Bool.and_eq_true,decide_eq_true_eq] at h
 omega
theorem idxI_le (l:List Int) (p:Int):idxI l p<=l.length:=by
 unfold idxI
 rcases idxW_spec l (fun w=>decide (p=w)) with ⟨e,_⟩ | ⟨i,e,h,_⟩
 ·rw [e]; omega
 ·rw [e]; omega
theorem aboveTo_succ (f:Frm) (p:Int) (n:Nat):aboveTo f p (n + 1)=(aboveTo f p n).or (if decide (0<=idxI (col f n) p) then some n else none):=by
 unfold aboveTo; rw [List.range_succ,List.find?_append]
 congr 1
 rw [List.find?_cons]
 split
 ·rename_i h; rw [if_pos h]
 ·rename_i h; rw [if_neg (by rw [h]; exact Bool.false_ne_true)]; rfl
theorem aboveTo_stay {p:Int} {c m:Nat} (h:aboveTo f p c=some m):∀ n,c<=n->aboveTo f p n=some m:=by
  intro n
  induction n with
  | zero => intro h0; have : c = 0 := by omega
            subst this; exact h
  | succ n ih =>
    intro hn
    by_cases e:c=n + 1
    · rw [← e]; exact h
    · rw [aboveTo_succ,ih (by omega)]; rfl
theorem above_hit {p:Int} {x:Nat} (hx:x < f.columns.length) (h:aboveTo f p x=none) (hi:decide (0<=idxI (col f x) p)=true):aboveN f p=some x:=by
 have:aboveTo f p (x + 1)=some x:=by rw [aboveTo_succ,h,if_pos hi]; rfl
 exact aboveTo_stay this _ (by omega)
theorem aboveL_good (hs:Sound f) (p:Int):goodL f (aboveL f p):=by
 unfold aboveL
 split
 ·exact goodL_take (col_good hs _) _
 ·exact goodL_nil
theorem gapU_good (hs:Sound f) (a b x:Int):goodL f (gapU f a b x):=by
 unfold gapU
 split
 ·exact goodL_drop (aboveL_good hs x) _
 ·exact aboveL_good hs x
theorem gapU_t {a b x:Int} (h:aboveC f a=aboveC f b):gapU f a b x=(aboveL f x).drop (sameN f a b):=by unfold gapU; rw [if_pos h]
theorem gapU_f {a b x:Int} (h:¬ aboveC f a=aboveC f b):gapU f a b x=aboveL f x:=by unfold gapU; rw [if_neg h]
theorem getD_drop {l:List Int} (n i:Nat):(l.drop n).getD i 0=l.getD (n + i) 0:=by simp [List.getD_eq_getElem?_getD,List.getElem?_drop]
end Go.Sh
namespace Go.Ab
open Go Go.RowKit Go.Proofs Go.Sh Go.En
theorem w90 (f:Frm) (w:Int)
  (o0:Sound f/\0<=w/\w<=1000->0=(↑0:Int))
  (o1:Sound f/\0<=w/\w<=1000->0<=f.columns.length)
  (o2:Sound f/\0<=w/\w<=1000 -> ∀ (x0:Nat),x0<=f.columns.length->decide ((x0:Int) < (↑(f.columns.length):Int))=true->0<=(x0:Int))
  (o3:Sound f/\0<=w/\w<=1000 -> ∀ (x0:Nat),x0<=f.columns.length->decide ((x0:Int) < (↑(f.columns.length):Int))=true->(x0:Int) < (↑(f.columns.length):Int))
  (o4:Sound f/\0<=w/\w<=1000 -> ∀ (x0:Nat),x0<=f.columns.length->decide ((x0:Int) < (↑(f.columns.length):Int))=true->(col f x0).length<=60000)
  (o5:Sound f/\0<=w/\w<=1000 -> ∀ (x0:Nat),x0<=f.columns.length->decide ((x0:Int) < (↑(f.columns.length):Int))=true->(col f x0).length<=65536)
  (o6:∀ (E0:Env),Sound f/\0<=w/\w<=1000 -> ∀ (x0:Nat),x0<=f.columns.length->decide ((x0:Int) < (↑(f.columns.length):Int))=true -> ∀ (i3:Env) (i4:List Value),Env.le E0 i3->i4.length=2->(∀ (k:Nat),Rel i3 true (List.getD [AV.vec 10112,AV.clo 127 [AV.rp [iv w]]] k AV.any) (i4.getD k undef))->fnokOf Try.prog 0 (fun (w:{ w:Int // w ∈ col f x0 })=>[iv (Subtype.val w)]) (fun (w_1:{ w:Int // w ∈ col f x0 })=>bv (bitP w (Subtype.val w_1))) (Env.mk i3.1 i3.2 i3.3 fun (k:Nat) (u:Value) => ∃ (i:Nat),[AV.vec 10112,AV.fn 0][i]? = some (AV.fn k)/\i4[i]? = some u))
  (o7:Sound f/\0<=w/\w<=1000 -> ∀ (x0:Nat),x0<=f.columns.length->decide ((x0:Int) < (↑(f.columns.length):Int))=true->goodL f (delW (col f x0) (bitP w)))
  (o8:Sound f/\0<=w/\w<=1000 -> ∀ (x0:Nat),x0<=f.columns.length->decide ((x0:Int) < (↑(f.columns.length):Int))=true->0<=(highP f (delW (col f x0) (bitP w))).lo)
  (o9:Sound f/\0<=w/\w<=1000 -> ∀ (x0:Nat),x0<=f.columns.length->decide ((x0:Int) < (↑(f.columns.length):Int))=true->(highP f (delW (col f x0) (bitP w))).lo<=(highP f (delW (col f x0) (bitP w))).hi)
  (o10:Sound f/\0<=w/\w<=1000 -> ∀ (x0:Nat),x0<=f.columns.length->decide ((x0:Int) < (↑(f.columns.length):Int))=true->(highP f (delW (col f x0) (bitP w))).hi<=1000)
  (o11:Sound f/\0<=w/\w<=1000 -> ∀ (x0:Nat),x0<=f.columns.length->decide ((x0:Int) < (↑(f.columns.length):Int))=true->x0 + 1<=65536)
  (o12:Sound f/\0<=w/\w<=1000 -> ∀ (x0:Nat),x0<=f.columns.length->decide ((x0:Int) < (↑(f.columns.length):Int))=true->inI ((x0:Int) + 1))
  (o13:Sound f/\0<=w/\w<=1000 -> ∀ (x0:Nat),x0<=f.columns.length->decide ((x0:Int) < (↑(f.columns.length):Int))=true->(x0:Int) + 1=(↑(x0 + 1):Int))
  (o14:Sound f/\0<=w/\w<=1000 -> ∀ (x0:Nat),x0<=f.columns.length->decide ((x0:Int) < (↑(f.columns.length):Int))=true -> ∀ (i12:Nat),i12 < x0 + 1->catF x0 (fun (i:Nat)=>cSpan ((roomsTo f w x0).getD i (Span.mk 0 0))) (fun (j:Nat)=>List.getD [[iv (roomP f (highP f (delW (col f x0) (bitP w)))).lo,iv (roomP f (highP f (delW (col f x0) (bitP w)))).hi]] j (TI.za ti36)) i12=cSpan ((roomsTo f w (x0 + 1)).getD i12 (Span.mk 0 0)))
  (o15:Sound f/\0<=w/\w<=1000 -> ∀ (x0:Nat),x0<=f.columns.length->decide ((x0:Int) < (↑(f.columns.length):Int))=true->x0 + 1<=f.columns.length)
  (o16:Sound f/\0<=w/\w<=1000 -> ∀ (x0:Nat),x0<=f.columns.length->decide ((x0:Int) < (↑(f.columns.length):Int))=true->f.columns.length - (x0 + 1) < f.columns.length - x0)
  (o17:Sound f/\0<=w/\w<=1000 -> ∀ (x0:Nat),x0<=f.columns.length->decide ((x0:Int) < (↑(f.columns.length):Int))=false->0=(↑0:Int))
  (o18:Sound f/\0<=w/\w<=1000 -> ∀ (x0:Nat),x0<=f.columns.length->decide ((x0:Int) < (↑(f.columns.length):Int))=false->0<=f.strips.length)
  (o19:Sound f/\0<=w/\w<=1000 -> ∀ (x0:Nat),x0<=f.columns.length->decide ((x0:Int) < (↑(f.columns.length):Int))=false -> ∀ (x14:Nat),x14<=f.strips.length->decide ((x14:Int) < (↑(f.strips.length):Int))=true->0<=(x14:Int))
  (o20:Sound f/\0<=w/\w<=1000 -> ∀ (x0:Nat),x0<=f.columns.length->decide ((x0:Int) < (↑(f.columns.length):Int))=false -> ∀ (x14:Nat),x14<=f.strips.length->decide ((x14:Int) < (↑(f.strips.length):Int))=true->(x14:Int) < (↑(f.strips.length):Int))
  (o21:Sound f/\0<=w/\w<=1000 -> ∀ (x0:Nat),x0<=f.columns.length->decide ((x0:Int) < (↑(f.columns.length):Int))=false -> ∀ (x14:Nat),x14<=f.strips.length->decide ((x14:Int) < (↑(f.strips.length):Int))=true->x14 + 1<=65536)
  (o22:Sound f/\0<=w/\w<=1000 -> ∀ (x0:Nat),x0<=f.columns.length->decide ((x0:Int) < (↑(f.columns.length):Int))=false -> ∀ (x14:Nat),x14<=f.strips.length->decide ((x14:Int) < (↑(f.strips.length):Int))=true->inI ((x14:Int) + 1))
  (o23:Sound f/\0<=w/\w<=1000 -> ∀ (x0:Nat),x0<=f.columns.length->decide ((x0:Int) < (↑(f.columns.length):Int))=false -> ∀ (x14:Nat),x14<=f.strips.length->decide ((x14:Int) < (↑(f.strips.length):Int))=true->(x14:Int) + 1=(↑(x14 + 1):Int))
  (o24:Sound f/\0<=w/\w<=1000 -> ∀ (x0:Nat),x0<=f.columns.length->decide ((x0:Int) < (↑(f.columns.length):Int))=false -> ∀ (x14:Nat),x14<=f.strips.length->decide ((x14:Int) < (↑(f.strips.length):Int))=true -> ∀ (i16:Nat),i16 < x14 + 1->catF x14 (fun (i:Nat)=>[iv ((stockTo f x14).getD i 0)]) (fun (j:Nat)=>List.getD [[iv (stp f x14).many]] j (TI.za ti3)) i16 = [iv ((stockTo f (x14 + 1)).getD i16 0)])
  (o25:Sound f/\0<=w/\w<=1000 -> ∀ (x0:Nat),x0<=f.columns.length->decide ((x0:Int) < (↑(f.columns.length):Int))=false -> ∀ (x14:Nat),x14<=f.strips.length->decide ((x14:Int) < (↑(f.strips.length):Int))=true->x14 + 1<=f.strips.length)
  (o26:Sound f/\0<=w/\w<=1000 -> ∀ (x0:Nat),x0<=f.columns.length->decide ((x0:Int) < (↑(f.columns.length):Int))=false -> ∀ (x14:Nat),x14<=f.strips.length->decide ((x14:Int) < (↑(f.strips.length):Int))=true->f.strips.length - (x14 + 1) < f.strips.length - x14)
  (o27:Sound f/\0<=w/\w<=1000 -> ∀ (x0:Nat),x0<=f.columns.length->decide ((x0:Int) < (↑(f.columns.length):Int))=false -> ∀ (x14:Nat),x14<=f.strips.length->decide ((x14:Int) < (↑(f.strips.length):Int))=false->x0=(roomsTo f w f.columns.length).length)
  (o28:Sound f/\0<=w/\w<=1000 -> ∀ (x0:Nat),x0<=f.columns.length->decide ((x0:Int) < (↑(f.columns.length):Int))=false -> ∀ (x14:Nat),x14<=f.strips.length->decide ((x14:Int) < (↑(f.strips.length):Int))=false -> ∀ (i18:Nat),i18 < (roomsTo f w f.columns.length).length->cSpan ((roomsTo f w x0).getD i18 (Span.mk 0 0))=cSpan ((roomsTo f w f.columns.length).getD i18 (Span.mk 0 0)))
  (o29:Sound f/\0<=w/\w<=1000 -> ∀ (x0:Nat),x0<=f.columns.length->decide ((x0:Int) < (↑(f.columns.length):Int))=false -> ∀ (x14:Nat),x14<=f.strips.length->decide ((x14:Int) < (↑(f.strips.length):Int))=false->x14=(stockTo f f.strips.length).length)
  (o30:Sound f/\0<=w/\w<=1000 -> ∀ (x0:Nat),x0<=f.columns.length->decide ((x0:Int) < (↑(f.columns.length):Int))=false -> ∀ (x14:Nat),x14<=f.strips.length->decide ((x14:Int) < (↑(f.strips.length):Int))=false -> ∀ (i20:Nat),i20 < (stockTo f f.strips.length).length -> [iv ((stockTo f x14).getD i20 0)] = [iv ((stockTo f f.strips.length).getD i20 0)])
  (o31:Sound f/\0<=w/\w<=1000 -> ∀ (x0:Nat),x0<=f.columns.length->decide ((x0:Int) < (↑(f.columns.length):Int))=false -> ∀ (x14:Nat),x14<=f.strips.length->decide ((x14:Int) < (↑(f.strips.length):Int))=false->GoodLeft f (stockTo f f.strips.length))
  (o32:Sound f/\0<=w/\w<=1000 -> ∀ (x0:Nat),x0<=f.columns.length->decide ((x0:Int) < (↑(f.columns.length):Int))=false -> ∀ (x14:Nat),x14<=f.strips.length->decide ((x14:Int) < (↑(f.strips.length):Int))=false->(roomsTo f w f.columns.length).length<=3)
  (o33:Sound f/\0<=w/\w<=1000 -> ∀ (x0:Nat),x0<=f.columns.length->decide ((x0:Int) < (↑(f.columns.length):Int))=false -> ∀ (x14:Nat),x14<=f.strips.length->decide ((x14:Int) < (↑(f.strips.length):Int))=false->Option.isSome (lockP f (roomsTo f w f.columns.length) (stockTo f f.strips.length))=Option.isSome (wholeP f w))
  (o34:Sound f/\0<=w/\w<=1000 -> ∀ (x0:Nat),x0<=f.columns.length->decide ((x0:Int) < (↑(f.columns.length):Int))=false -> ∀ (x14:Nat),x14<=f.strips.length->decide ((x14:Int) < (↑(f.strips.length):Int))=false->Option.isSome (wholeP f w)=true->(layS (lockP f (roomsTo f w f.columns.length) (stockTo f f.strips.length))).length=(layS (wholeP f w)).length)
  (o35:Sound f/\0<=w/\w<=1000 -> ∀ (x0:Nat),x0<=f.columns.length->decide ((x0:Int) < (↑(f.columns.length):Int))=false -> ∀ (x14:Nat),x14<=f.strips.length->decide ((x14:Int) < (↑(f.strips.length):Int))=false->Option.isSome (wholeP f w)=true -> ∀ (i24:Nat),i24 < (layS (wholeP f w)).length -> [aInts ((layS (lockP f (roomsTo f w f.columns.length) (stockTo f f.strips.length))).getD i24 [])] = [aInts ((layS (wholeP f w)).getD i24 [])])
  (o36:Sound f/\0<=w/\w<=1000 -> ∀ (x0:Nat),x0<=f.columns.length->decide ((x0:Int) < (↑(f.columns.length):Int))=false -> ∀ (x14:Nat),x14<=f.strips.length->decide ((x14:Int) < (↑(f.strips.length):Int))=false->Option.isSome (wholeP f w)=true->layM (lockP f (roomsTo f w f.columns.length) (stockTo f f.strips.length))=layM (wholeP f w)) :
  Triple Try.prog 90 (s90 f w):=by
 refine triple_of Try.func90 rfl Try.call90 T0_ok _ rfl rfl rfl rfl (Nat.le_of_ble_eq_true (by kernel_rfl)) (fun _ _ _ _ h=>h) ?_
 intro hpre C hC _ hE
 obtain ⟨P,w0,E0,av,hA,ro,df⟩:=C
 obtain ⟨rfl,rfl,rfl⟩:=hC
 refine swp_seq ?_
 refine zC ([(1,focB)]) [2,3] [0] (Ak 3 tv) ?_
 refine swp_seq ?_
 refine zR [2,3,5] [0] (Ak 1 tv) ?_
 refine swp_seq ?_
 refine swp_seq ?_
 refine zR [2,3,5,14,15,16] [0] (Ak 5 tv) ?_
 refine swp_block ?_
 refine zL (Hint.ann (h90a f w) [(2,AV.ptr 0 []),(3,AV.rp [iv w]),(14,AV.sl 1 f.columns.length fun (i:Nat)=>[aInts (col f i)]),(15,iv (↑(f.columns.length):Int))] [(0,OB.cells 101 (cFrm f))] 10072) (zE hE [] [(0,.same 0),(5000,.nil)] [3,14,15] [0] (An (An (An (zr (some (Src.same 0))) (zr nilP)) (An (An (zr (AV.rp [iv w])) (zr true)) (An (An (zr (AV.sl 1 f.columns.length fun (i:Nat)=>[aInts (col f i)])) (zr true)) (An (An (zr (iv (↑(f.columns.length):Int))) (zr true)) (An (zr (some Src.nil)) (An (An (ci (o0 hpre)) (zr nilN)) tv)))))) (An (An (An (zr (OB.cells 101 (cFrm f))) (zr true)) (An (zr 0) tv)) (An (zr true) (zr true))))) (o1 hpre) (fun (x0:Nat) hx0 => ?_)
 refine swp_seq ?_
 refine zR [2,3,14,15,5,16,17] [0,5000] (Ak 1 tv) ?_
 refine swp_seq ?_
 refine zI (decide ((x0:Int) < (↑(f.columns.length):Int))) (fun y1 => ?_) (fun y1 => ?_)
 ·refine swp_skip ?_
  refine swp_seq ?_
  refine swp_block ?_
  refine swp_seq ?_
  refine zR [2,3,14,15,5,16,7] [0,5000] (An (An (o2 hpre x0 hx0 y1) (o3 hpre x0 hx0 y1)) (Ak 2 tv)) ?_
  refine swp_seq ?_
  refine zC ([(1,CallSpec.eq (c90c f w x0) [true]),(3,CallSpec.eq (c90d f w x0) [true,false])]) [2,3,14,15,5,16,8] [0,5000] (Ak 1 (An (An (An (zr (aInts (col f x0))) tv) (An (t126o (col f x0) (10112)) (An (o4 hpre x0 hx0 y1) (Ak 1 (fun (i2:Env)=>tv))))) (Ak 1 (An (An (An (zr (AV.vec 10112)) (Ak 1 tv)) (An (t125 (10112) (col f x0) (bitP w)) (An (o5 hpre x0 hx0 y1) (An (An (zr (some (OB.vec 3 1 (col f x0).length fun (i:Nat)=>[iv ((col f x0).getD i 0)]))) tv) (fun (i3:Env)=>(fun (i4:List Value)=>(fun (y5:Env.le E0 i3)=>(fun (y6:i4.length=2)=>(fun (y7:∀ (k:Nat),Rel i3 true (List.getD [AV.vec 10112,AV.clo 127 [AV.rp [iv w]]] k AV.any) (i4.getD k undef))=>(o6 E0 hpre x0 hx0 y1 i3 i4 y5 y6 y7)))))))))) (Ak 1 tv))))) ?_
  refine zC ([(4,CallSpec.eq (s86 f (delW (col f x0) (bitP w))) [true,false]),(5,CallSpec.eq (s85 f (highP f (delW (col f x0) (bitP w)))) [true,true])]) [2,3,14,15,5,16] [0,10200] (Ak 4 (An (An (An (zr (AV.agg (cFrm f))) (An (An (zr 1) (An (zr (delW (col f x0) (bitP w)).length) (fun (i8:Nat)=>(fun (y9:i8 < (delW (col f x0) (bitP w)).length)=>(zr ([iv ((delW (col f x0) (bitP w)).getD i8 0)])))))) tv)) (An (t86 (f) (delW (col f x0) (bitP w))) (An (An hpre.1 (o7 hpre x0 hx0 y1)) (Ak 1 (fun (i10:Env)=>tv))))) (An (An (An (zr (AV.agg (cFrm f))) (An (zr (AV.agg (cSpan (highP f (delW (col f x0) (bitP w)))))) tv)) (An (t85 (f) (highP f (delW (col f x0) (bitP w)))) (An (An hpre.1 (An (o8 hpre x0 hx0 y1) (An (o9 hpre x0 hx0 y1) (o10 hpre x0 hx0 y1)))) (Ak 1 (fun (i11:Env)=>tv))))) (Ak 1 (An (o11 hpre x0 hx0 y1) (Ak 1 tv)))))) ?_
  refine zR [2,3,14,15,5,16] [0,10200] (An (o12 hpre x0 hx0 y1) (Ak 1 tv)) ?_
  exact zn (zE hE [] [(0,.same 0),(5000,.same 10200)] [3,14,15] [0] (An (An (An (zr (some (Src.same 0))) (zr nilP)) (An (An (zr (AV.rp [iv w])) (zr true)) (An (An (zr (AV.sl 1 f.columns.length fun (i:Nat)=>[aInts (col f i)])) (zr true)) (An (An (zr (iv (↑(f.columns.length):Int))) (zr true)) (An (zr (some (Src.same 10200))) (An (An (ci (o13 hpre x0 hx0 y1)) (zr nilN)) tv)))))) (An (An (An (zr (OB.cells 101 (cFrm f))) (zr true)) (An (An (zr 36) (An (zr 2) (An (zr (x0 + 1)) (fun (i12:Nat)=>(fun (y13:i12 < x0 + 1)=>(o14 hpre x0 hx0 y1 i12 y13)))))) tv)) (An (zr true) (zr true))))) (o15 hpre x0 hx0 y1) (o16 hpre x0 hx0 y1)
 ·refine swp_exit ?_
  refine swp_seq ?_
  refine zR [2,5,9] [0,5000] (Ak 1 tv) ?_
  refine swp_seq ?_
  refine swp_seq ?_
  refine zR [2,5,9,35,36,37] [0,5000] (Ak 5 tv) ?_
  refine swp_block ?_
  refine zL (Hint.ann (h90b f w) [(2,AV.ptr 0 []),(5,AV.vec 5000),(35,AV.sl 2 f.strips.length fun (i:Nat)=>cStrip (stp f i)),(36,iv (↑(f.strips.length):Int))] [(0,OB.cells 101 (cFrm f)),(5000,OB.vec 36 2 x0 fun (i:Nat)=>cSpan ((roomsTo f w x0).getD i (Span.mk 0 0)))] 20128) (zE hE [] [(0,.same 0),(5000,.same 5000),(5001,.nil)] [35,36] [0,5000] (An (An (An (zr (some (Src.same 0))) (zr nilP)) (An (zr (some (Src.same 5000))) (An (An (zr (AV.sl 2 f.strips.length fun (i:Nat)=>cStrip (stp f i))) (zr true)) (An (An (zr (iv (↑(f.strips.length):Int))) (zr true)) (An (zr (some Src.nil)) (An (An (ci (o17 hpre x0 hx0 y1)) (zr nilN)) tv)))))) (An (An (An (zr (OB.cells 101 (cFrm f))) (zr true)) (An (An (zr (OB.vec 36 2 x0 fun (i:Nat)=>cSpan ((roomsTo f w x0).getD i (Span.mk 0 0)))) (zr true)) (An (zr 0) tv))) (An (zr true) (zr true))))) (o18 hpre x0 hx0 y1) (fun (x14:Nat) hx14 => ?_)
  refine swp_seq ?_
  refine zR [2,5,35,36,9,37,38] [0,5000,5001] (Ak 1 tv) ?_
  refine swp_seq ?_
  refine zI (decide ((x14:Int) < (↑(f.strips.length):Int))) (fun y15 => ?_) (fun y15 => ?_)
  ·refine swp_skip ?_
   refine swp_seq ?_
   refine swp_block ?_
   refine swp_seq ?_
   refine zR [2,5,35,36,9,37,11] [0,5000,5001,20152] (An (An (o19 hpre x0 hx0 y1 x14 hx14 y15) (o20 hpre x0 hx0 y1 x14 hx14 y15)) (Ak 3 tv)) ?_
   refine zR [2,5,35,36,9,37] [0,5000,20200] (Ak 4 (An (o21 hpre x0 hx0 y1 x14 hx14 y15) (Ak 1 tv))) ?_
   refine zR [2,5,35,36,9,37] [0,5000,20200] (An (o22 hpre x0 hx0 y1 x14 hx14 y15) (Ak 1 tv)) ?_
   exact zn (zE hE [] [(0,.same 0),(5000,.same 5000),(5001,.same 20200)] [35,36] [0,5000] (An (An (An (zr (some (Src.same 0))) (zr nilP)) (An (zr (some (Src.same 5000))) (An (An (zr (AV.sl 2 f.strips.length fun (i:Nat)=>cStrip (stp f i))) (zr true)) (An (An (zr (iv (↑(f.strips.length):Int))) (zr true)) (An (zr (some (Src.same 20200))) (An (An (ci (o23 hpre x0 hx0 y1 x14 hx14 y15)) (zr nilN)) tv)))))) (An (An (An (zr (OB.cells 101 (cFrm f))) (zr true)) (An (An (zr (OB.vec 36 2 x0 fun (i:Nat)=>cSpan ((roomsTo f w x0).getD i (Span.mk 0 0)))) (zr true)) (An (An (zr 3) (An (zr 1) (An (zr (x14 + 1)) (fun (i16:Nat)=>(fun (y17:i16 < x14 + 1)=>(o24 hpre x0 hx0 y1 x14 hx14 y15 i16 y17)))))) tv))) (An (zr true) (zr true))))) (o25 hpre x0 hx0 y1 x14 hx14 y15) (o26 hpre x0 hx0 y1 x14 hx14 y15)
  ·refine swp_exit ?_
   refine swp_seq ?_
   refine zC ([(3,CallSpec.eq (c90l f w) [true,false,false])]) [4] [] (Ak 3 (An (An (An (zr (AV.agg (cFrm f))) (An (An (zr 2) (An (o27 hpre x0 hx0 y1 x14 hx14 y15) (fun (i18:Nat)=>(fun (y19:i18 < (roomsTo f w f.columns.length).length)=>(o28 hpre x0 hx0 y1 x14 hx14 y15 i18 y19))))) (An (An (zr 1) (An (o29 hpre x0 hx0 y1 x14 hx14 y15) (fun (i20:Nat)=>(fun (y21:i20 < (stockTo f f.strips.length).length)=>(o30 hpre x0 hx0 y1 x14 hx14 y15 i20 y21))))) tv))) (An (t128 (f) (roomsTo f w f.columns.length) (stockTo f f.strips.length)) (An (An hpre.1 (An (o31 hpre x0 hx0 y1 x14 hx14 y15) (o32 hpre x0 hx0 y1 x14 hx14 y15))) (Ak 1 (fun (i22:Env)=>tv))))) (Ak 1 tv))) ?_
   refine swp_ret ?_
   exact zT [] (An (Ak 1 tv) (An (An (o33 hpre x0 hx0 y1 x14 hx14 y15) (fun (y23:Option.isSome (wholeP f w)=true)=>(An (An (zr 1) (An (o34 hpre x0 hx0 y1 x14 hx14 y15 y23) (fun (i24:Nat)=>(fun (y25:i24 < (layS (wholeP f w)).length)=>(o35 hpre x0 hx0 y1 x14 hx14 y15 y23 i24 y25))))) (An (ci (o36 hpre x0 hx0 y1 x14 hx14 y15 y23)) tv)))) (An (zr true) (An (zr true) (zr true)))))
theorem t90 (f:Frm) (w:Int):Triple Try.prog 90 (s90 f w):=by
 apply w90
 all_goals (first | ((repeat intro _) <;> (try simp only [Bool.cond_true_left,Bool.cond_false_right,Bool.not_not,Bool.not_eq_true',Bool.not_eq_false',Bool.or_eq_true,Bool.or_eq_false_iff,Bool.and_eq_true,decide_eq_true_eq,decide_eq_false_iff_not,inI,big,fitsF,smallF,goodL] at *) <;> first | (exact rfl) | omega | (exact ⟨Nat.zero_le _,fun j hj=>absurd hj (Nat.not_lt_zero j)⟩) | (simp_all; done) | (simp_all; omega)) | skip)
 case o6 =>
  intro E0 hp x hx hl E us le hlen hr
  obtain ⟨hs,h0,h1⟩:=hp
  refine fnok_arg (vals:=[.vec 10112,.clo 127 [.rp [iv w]]]) 1 (fun j' h => ?_) (fun E u hu m=>fnok_clo (caps:=[.rp [iv w]]) (s127 m.1 w) (t127 _ _) rfl ⟨(col_elem hs m.2).1,(col_elem hs m.2).2,h0,h1⟩ (fun _=>trivial) rfl rfl rfl rfl rfl hu) E us le hlen hr
  match j',h with
  | 0,h=>cases h
  | 1,_=>rfl
  | n + 2,h=>simp at h
 all_goals (intro hp; obtain ⟨hs,h0,h1⟩:=hp; have hc3:=hs.columns; have hs3:=hs.strips)
 case o4 | o5=>intro x hx hl; have:=hs.colLen x; omega
 case o7=>intro x hx hl; exact goodL_del (col_good hs x) _
 case o8 | o9 | o10=>intro x hx hl; have:=high_bound' hs (goodL_del (col_good hs x) (bitP w)); omega
 case o11=>intro x hx hl; omega
 case o12=>intro x hx hl; exact ⟨by omega,by omega⟩
 case o14 =>
  intro x hx hl i hi
  rw [rooms_succ]
  exact catF_one (roomsTo f w x) _ ⟨0,0⟩ cSpan (rooms_len f w x).symm (fun k _=>rfl) rfl (by rw [rooms_len]; exact hi)
 all_goals (intro x hx hl y hy hk)
 case o21=>omega
 case o22=>exact ⟨by omega,by omega⟩
 case o24 =>
  intro i hi
  rw [stock_succ]
  exact catF_one (stockTo f y) _ 0 (fun x=>[iv x]) (stock_len f y).symm (fun k _=>rfl) rfl (by rw [stock_len]; exact hi)
 all_goals (simp only [decide_eq_false_iff_not] at hl hk)
 all_goals (have ex:x=f.columns.length:=by omega)
 all_goals (have ey:y=f.strips.length:=by omega)
 all_goals (subst ex; subst ey)
 case o27=>rw [rooms_len]
 case o28 | o30=>intro i hi; rfl
 case o29=>rw [stock_len]
 case o31=>exact stock_good hs
 case o32=>rw [rooms_len]; exact hc3
 all_goals ((repeat intro _); rfl)
theorem w59 (f:Frm)
  (o0:smallF f->(!decide (openF f true=0))=true->0=stripsN f)
  (o1:smallF f->(!decide (openF f true=0))=true->openF f true=stripsE f)
  (o2:smallF f->(!decide (openF f true=0))=false->Sound (openFr f true))
  (o3:smallF f->(!decide (openF f true=0))=false->(!Option.isSome (wholeP (openFr f true) 0))=true->0=stripsN f)
  (o4:smallF f->(!decide (openF f true=0))=false->(!Option.isSome (wholeP (openFr f true) 0))=true->3=stripsE f)
  (o5:smallF f->(!decide (openF f true=0))=false->(!Option.isSome (wholeP (openFr f true) 0))=false->Option.isSome (wholeP (openFr f true) 0)=true)
  (o6:smallF f->(!decide (openF f true=0))=false->(!Option.isSome (wholeP (openFr f true) 0))=false->Option.isSome (wholeP (openFr f true) 0)=true)
  (o7:smallF f->(!decide (openF f true=0))=false->(!Option.isSome (wholeP (openFr f true) 0))=false->layM (wholeP (openFr f true) 0)=stripsN f)
  (o8:smallF f->(!decide (openF f true=0))=false->(!Option.isSome (wholeP (openFr f true) 0))=false->0=stripsE f) :
  Triple Try.prog 59 (s59 f):=by
 refine triple_of Try.func59 rfl Try.call59 T0_ok _ rfl rfl rfl rfl (Nat.le_of_ble_eq_true (by kernel_rfl)) (fun _ _ _ _ h=>h) ?_
 intro hpre C hC _ hE
 obtain ⟨P,w0,E0,av,hA,ro,df⟩:=C
 obtain ⟨rfl,rfl,rfl⟩:=hC
 refine swp_seq ?_
 refine zR [1] [0] (Ak 3 tv) ?_
 refine swp_seq ?_
 refine zC ([(1,CallSpec.eq (s83 f true) [true,true])]) [4,5] [64] (Ak 1 (An (An (An (zr (AV.agg (cFrm f))) (An (zr (bv true)) tv)) (An (t83 (f) (true)) (An hpre (Ak 1 (fun (i0:Env)=>tv))))) (Ak 6 tv))) ?_
 refine swp_seq ?_
 refine swp_seq ?_
 refine zR [4,5,13] [64] (Ak 2 tv) ?_
 refine zI (!decide (openF f true=0)) (fun y1 => ?_) (fun y1 => ?_)
 ·refine swp_seq ?_
  refine zR [2,3] [] (Ak 3 tv) ?_
  refine swp_ret ?_
  exact zT [] (An (Ak 2 tv) (An (An (An (ci (o0 hpre y1)) (zr nilN)) (An (An (ci (o1 hpre y1)) (zr nilN)) tv)) (An (zr true) (An (zr true) (zr true)))))
 ·refine swp_skip ?_
  refine swp_seq ?_
  refine zC ([(1,CallSpec.eq (s90 (openFr f true) 0) [true,true])]) [6] [] (Ak 1 (An (An (An (zr (AV.agg (cFrm (openFr f true)))) (An (zr (iv 0)) tv)) (An (t90 (openFr f true) (0)) (An (An (o2 hpre y1) (An (by decide:Int.ofNat 0<=Int.ofNat 0) (by decide:Int.ofNat 0<=Int.ofNat 1000))) (Ak 1 (fun (i2:Env)=>tv))))) (Ak 1 tv))) ?_
  refine swp_seq ?_
  refine swp_seq ?_
  refine zR [6,18] [] (Ak 2 tv) ?_
  refine zI (!Option.isSome (wholeP (openFr f true) 0)) (fun y3 => ?_) (fun y3 => ?_)
  ·refine swp_seq ?_
   refine zR [2,3] [] (Ak 2 tv) ?_
   refine swp_ret ?_
   exact zT [] (An (Ak 2 tv) (An (An (An (ci (o3 hpre y1 y3)) (zr nilN)) (An (An (ci (o4 hpre y1 y3)) (zr nilN)) tv)) (An (zr true) (An (zr true) (zr true)))))
  ·refine swp_skip ?_
   refine swp_seq ?_
   refine zR [2,3] [] (Ak 1 (An (o5 hpre y1 y3) (An (o6 hpre y1 y3) (Ak 3 tv)))) ?_
   refine swp_ret ?_
   exact zT [] (An (Ak 2 tv) (An (An (An (ci (o7 hpre y1 y3)) (zr nilN)) (An (An (ci (o8 hpre y1 y3)) (zr nilN)) tv)) (An (zr true) (An (zr true) (zr true)))))
theorem t59 (f:Frm):Triple Try.prog 59 (s59 f):=by
 apply w59
 all_goals (first | ((repeat intro _) <;> (try simp only [Bool.cond_true_left,Bool.cond_false_right,Bool.not_not,Bool.not_eq_true',Bool.not_eq_false',Bool.or_eq_true,Bool.or_eq_false_iff,Bool.and_eq_true,decide_eq_true_eq,decide_eq_false_iff_not,inI,big,fitsF,smallF,goodL] at *) <;> first | (exact rfl) | omega | (exact ⟨Nat.zero_le _,fun j hj=>absurd hj (Nat.not_lt_zero j)⟩) | (simp_all; done) | (simp_all; omega)) | skip)
 all_goals (intro hp h)
 case o0 | o1=>have e:=gate_bad h; rw [Bool.and_true] at e; simp [stripsN,stripsE,openF,e]
 all_goals (obtain ⟨e1,_,e2,e3,e4⟩:=gate_ok h)
 case o2=>rw [e2]; exact e3
 all_goals (intro h2; rw [e2] at h2)
 case o3 | o4=>have:=lay_none h2; simp [stripsN,stripsE,e1,this,layM]
 case o7=>rw [e2]; simp [stripsN,e1]
 case o8=>simp [stripsE,e1,lay_some h2]
theorem w22 (f:Frm) (c:Int)
  (o0:smallF f->fitsF f)
  (o1:smallF f->(!decide (openF f (isCol f c)=0))=true->0=(roomR f c).lo)
  (o2:smallF f->(!decide (openF f (isCol f c)=0))=true->0=(roomR f c).hi)
  (o3:smallF f->(!decide (openF f (isCol f c)=0))=true->openF f (isCol f c)=roomE f c)
  (o4:smallF f->(!decide (openF f (isCol f c)=0))=false->0<=c)
  (o5:smallF f->(!decide (openF f (isCol f c)=0))=false->c < (↑((openFr f (isCol f c)).columns.length):Int))
  (o6:smallF f->(!decide (openF f (isCol f c)=0))=false->Sound (openFr f (isCol f c)))
  (o7:smallF f->(!decide (openF f (isCol f c)=0))=false->goodL (openFr f (isCol f c)) (col (openFr f (isCol f c)) c.toNat))
  (o8:smallF f->(!decide (openF f (isCol f c)=0))=false->Sound (openFr f (isCol f c)))
  (o9:smallF f->(!decide (openF f (isCol f c)=0))=false->0<=(highP (openFr f (isCol f c)) (col (openFr f (isCol f c)) c.toNat)).lo)
  (o10:smallF f->(!decide (openF f (isCol f c)=0))=false->(highP (openFr f (isCol f c)) (col (openFr f (isCol f c)) c.toNat)).lo<=(highP (openFr f (isCol f c)) (col (openFr f (isCol f c)) c.toNat)).hi)
  (o11:smallF f->(!decide (openF f (isCol f c)=0))=false->(highP (openFr f (isCol f c)) (col (openFr f (isCol f c)) c.toNat)).hi<=1000)
  (o12:smallF f->(!decide (openF f (isCol f c)=0))=false->decide ((roomP (openFr f (isCol f c)) (highP (openFr f (isCol f c)) (col (openFr f (isCol f c)) c.toNat))).hi < (roomP (openFr f (isCol f c)) (highP (openFr f (isCol f c)) (col (openFr f (isCol f c)) c.toNat))).lo)=true->0=(roomR f c).lo)
  (o13:smallF f->(!decide (openF f (isCol f c)=0))=false->decide ((roomP (openFr f (isCol f c)) (highP (openFr f (isCol f c)) (col (openFr f (isCol f c)) c.toNat))).hi < (roomP (openFr f (isCol f c)) (highP (openFr f (isCol f c)) (col (openFr f (isCol f c)) c.toNat))).lo)=true->0=(roomR f c).hi)
  (o14:smallF f->(!decide (openF f (isCol f c)=0))=false->decide ((roomP (openFr f (isCol f c)) (highP (openFr f (isCol f c)) (col (openFr f (isCol f c)) c.toNat))).hi < (roomP (openFr f (isCol f c)) (highP (openFr f (isCol f c)) (col (openFr f (isCol f c)) c.toNat))).lo)=true->3=roomE f c)
  (o15:smallF f->(!decide (openF f (isCol f c)=0))=false->decide ((roomP (openFr f (isCol f c)) (highP (openFr f (isCol f c)) (col (openFr f (isCol f c)) c.toNat))).hi < (roomP (openFr f (isCol f c)) (highP (openFr f (isCol f c)) (col (openFr f (isCol f c)) c.toNat))).lo)=false->(roomP (openFr f (isCol f c)) (highP (openFr f (isCol f c)) (col (openFr f (isCol f c)) c.toNat))).lo=(roomR f c).lo)
  (o16:smallF f->(!decide (openF f (isCol f c)=0))=false->decide ((roomP (openFr f (isCol f c)) (highP (openFr f (isCol f c)) (col (openFr f (isCol f c)) c.toNat))).hi < (roomP (openFr f (isCol f c)) (highP (openFr f (isCol f c)) (col (openFr f (isCol f c)) c.toNat))).lo)=false->(roomP (openFr f (isCol f c)) (highP (openFr f (isCol f c)) (col (openFr f (isCol f c)) c.toNat))).hi=(roomR f c).hi)
  (o17:smallF f->(!decide (openF f (isCol f c)=0))=false->decide ((roomP (openFr f (isCol f c)) (highP (openFr f (isCol f c)) (col (openFr f (isCol f c)) c.toNat))).hi < (roomP (openFr f (isCol f c)) (highP (openFr f (isCol f c)) (col (openFr f (isCol f c)) c.toNat))).lo)=false->0=roomE f c) :
  Triple Try.prog 22 (s22 f c):=by
 refine triple_of Try.func22 rfl Try.call22 T0_ok _ rfl rfl rfl rfl (Nat.le_of_ble_eq_true (by kernel_rfl)) (fun _ _ _ _ h=>h) ?_
 intro hpre C hC _ hE
 obtain ⟨P,w0,E0,av,hA,ro,df⟩:=C
 obtain ⟨rfl,rfl,rfl⟩:=hC
 refine swp_seq ?_
 refine zR [1,2,4] [0,8] (Ak 3 tv) ?_
 refine swp_seq ?_
 refine zC ([(3,CallSpec.eq (s84 f c) [true,true]),(4,CallSpec.eq (s83 f (isCol f c)) [true,true])]) [1,4,6,7] [8,88] (Ak 3 (An (An (An (zr (AV.agg (cFrm f))) (An (zr (iv c)) tv)) (An (t84 (f) (c)) (An (o0 hpre) (Ak 1 (fun (i0:Env)=>tv))))) (An (An (An (zr (AV.agg (cFrm f))) (An (zr (bv (isCol f c))) tv)) (An (t83 (f) (isCol f c)) (An hpre (Ak 1 (fun (i1:Env)=>tv))))) (Ak 6 tv)))) ?_
 refine swp_seq ?_
 refine swp_seq ?_
 refine zR [1,4,6,7,18] [8,88] (Ak 2 tv) ?_
 refine zI (!decide (openF f (isCol f c)=0)) (fun y2 => ?_) (fun y2 => ?_)
 ·refine swp_seq ?_
  refine zR [4,5] [8] (Ak 4 tv) ?_
  refine swp_ret ?_
  exact zT [] (An (Ak 2 tv) (An (An (An (An (ci (o1 hpre y2)) (zr nilN)) (An (An (ci (o2 hpre y2)) (zr nilN)) tv)) (An (An (ci (o3 hpre y2)) (zr nilN)) tv)) (An (zr true) (An (zr true) (zr true)))))
 ·refine swp_skip ?_
  refine swp_seq ?_
  refine zC ([(8,CallSpec.eq (s86 (openFr f (isCol f c)) (col (openFr f (isCol f c)) c.toNat)) [true,true]),(9,CallSpec.eq (s85 (openFr f (isCol f c)) (highP (openFr f (isCol f c)) (col (openFr f (isCol f c)) c.toNat))) [true,true])]) [4,8] [8,208] (Ak 6 (An (An (o4 hpre y2) (o5 hpre y2)) (Ak 1 (An (An (An (zr (AV.agg (cFrm (openFr f (isCol f c))))) (An (zr (aInts (col (openFr f (isCol f c)) c.toNat))) tv)) (An (t86 (openFr f (isCol f c)) (col (openFr f (isCol f c)) c.toNat)) (An (An (o6 hpre y2) (o7 hpre y2)) (Ak 1 (fun (i3:Env)=>tv))))) (An (An (An (zr (AV.agg (cFrm (openFr f (isCol f c))))) (An (zr (AV.agg (cSpan (highP (openFr f (isCol f c)) (col (openFr f (isCol f c)) c.toNat))))) tv)) (An (t85 (openFr f (isCol f c)) (highP (openFr f (isCol f c)) (col (openFr f (isCol f c)) c.toNat))) (An (An (o8 hpre y2) (An (o9 hpre y2) (An (o10 hpre y2) (o11 hpre y2)))) (Ak 1 (fun (i4:Env)=>tv))))) (Ak 2 tv)))))) ?_
  refine swp_seq ?_
  refine swp_seq ?_
  refine zR [4,8,35] [8,208] (Ak 5 tv) ?_
  refine zI (decide ((roomP (openFr f (isCol f c)) (highP (openFr f (isCol f c)) (col (openFr f (isCol f c)) c.toNat))).hi < (roomP (openFr f (isCol f c)) (highP (openFr f (isCol f c)) (col (openFr f (isCol f c)) c.toNat))).lo)) (fun y5 => ?_) (fun y5 => ?_)
  ·refine swp_seq ?_
   refine zR [4,5] [8] (Ak 3 tv) ?_
   refine swp_ret ?_
   exact zT [] (An (Ak 2 tv) (An (An (An (An (ci (o12 hpre y2 y5)) (zr nilN)) (An (An (ci (o13 hpre y2 y5)) (zr nilN)) tv)) (An (An (ci (o14 hpre y2 y5)) (zr nilN)) tv)) (An (zr true) (An (zr true) (zr true)))))
  ·refine swp_skip ?_
   refine swp_seq ?_
   refine zR [4,5] [8] (Ak 3 tv) ?_
   refine swp_ret ?_
   exact zT [] (An (Ak 2 tv) (An (An (An (An (ci (o15 hpre y2 y5)) (zr nilN)) (An (An (ci (o16 hpre y2 y5)) (zr nilN)) tv)) (An (An (ci (o17 hpre y2 y5)) (zr nilN)) tv)) (An (zr true) (An (zr true) (zr true)))))
theorem t22 (f:Frm) (c:Int):Triple Try.prog 22 (s22 f c):=by
 apply w22
 all_goals (first | ((repeat intro _) <;> (try simp only [Bool.cond_true_left,Bool.cond_false_right,Bool.not_not,Bool.not_eq_true',Bool.not_eq_false',Bool.or_eq_true,Bool.or_eq_false_iff,Bool.and_eq_true,decide_eq_true_eq,decide_eq_false_iff_not,inI,big,fitsF,smallF,goodL] at *) <;> first | (exact rfl) | omega | (exact ⟨Nat.zero_le _,fun j hj=>absurd hj (Nat.not_lt_zero j)⟩) | (simp_all; done) | (simp_all; omega)) | skip)
 case o0=>exact fun hp=>small_fits hp
 all_goals (intro hp h)
 case o1 | o2=>have e:=gate_bad h; simp [roomR,gateC,e]
 case o3=>have e:=gate_bad h; simp [roomE,gateC,e]
 all_goals (obtain ⟨e1,e0,e2,e3,e4⟩:=gate_ok h)
 all_goals (have hc:=isCol_get e0)
 all_goals (have hg:=col_good e3 c.toNat)
 all_goals (have hb:=high_bound' e3 hg)
 all_goals (try rw [e2])
 case o4=>exact hc.1
 case o5=>exact hc.2
 case o6 | o8=>exact e3
 case o7=>exact hg
 case o9 | o10 | o11=>omega
 all_goals (intro h2; (try rw [e2] at h2); simp only [decide_eq_true_eq,decide_eq_false_iff_not] at h2)
 all_goals (try rw [e2])
 all_goals (first | (simp [roomR,gateC,e1,e0,roomC,h2]; done) | (simp [roomE,gateC,e1,e0,roomC,h2]; done))
theorem w36 (f:Frm) (c:Int) (set:List Int)
  (o0:smallF f/\List.length set<=64->fitsF f)
  (o1:smallF f/\set.length<=64->isCol f c=true->fitsF f)
  (o2:smallF f/\set.length<=64->isCol f c=true->set.length<=big)
  (o3:smallF f/\set.length<=64->(!decide (openF f (bif isCol f c then isSet f set else false)=0))=true->0=fitsP f c set)
  (o4:smallF f/\set.length<=64->(!decide (openF f (bif isCol f c then isSet f set else false)=0))=true->openF f (bif isCol f c then isSet f set else false)=openF f (fitsG f c set))
  (o5:smallF f/\set.length<=64->(!decide (openF f (bif isCol f c then isSet f set else false)=0))=false->0<=c)
  (o6:smallF f/\set.length<=64->(!decide (openF f (bif isCol f c then isSet f set else false)=0))=false->c < (↑((openFr f (bif isCol f c then isSet f set else false)).columns.length):Int))
  (o7:smallF f/\set.length<=64->(!decide (openF f (bif isCol f c then isSet f set else false)=0))=false->Sound (openFr f (bif isCol f c then isSet f set else false)))
  (o8:smallF f/\set.length<=64->(!decide (openF f (bif isCol f c then isSet f set else false)=0))=false->goodL (openFr f (bif isCol f c then isSet f set else false)) (col (openFr f (bif isCol f c then isSet f set else false)) c.toNat))
  (o9:smallF f/\set.length<=64->(!decide (openF f (bif isCol f c then isSet f set else false)=0))=false->Sound (openFr f (bif isCol f c then isSet f set else false)))
  (o10:smallF f/\set.length<=64->(!decide (openF f (bif isCol f c then isSet f set else false)=0))=false->isSet (openFr f (bif isCol f c then isSet f set else false)) set=true)
  (o11:smallF f/\set.length<=64->(!decide (openF f (bif isCol f c then isSet f set else false)=0))=false->Sound (openFr f (bif isCol f c then isSet f set else false)))
  (o12:smallF f/\set.length<=64->(!decide (openF f (bif isCol f c then isSet f set else false)=0))=false->0<=(highP (openFr f (bif isCol f c then isSet f set else false)) (col (openFr f (bif isCol f c then isSet f set else false)) c.toNat)).lo)
  (o13:smallF f/\set.length<=64->(!decide (openF f (bif isCol f c then isSet f set else false)=0))=false->(highP (openFr f (bif isCol f c then isSet f set else false)) (col (openFr f (bif isCol f c then isSet f set else false)) c.toNat)).lo<=(highP (openFr f (bif isCol f c then isSet f set else false)) (col (openFr f (bif isCol f c then isSet f set else false)) c.toNat)).hi)
  (o14:smallF f/\set.length<=64->(!decide (openF f (bif isCol f c then isSet f set else false)=0))=false->(highP (openFr f (bif isCol f c then isSet f set else false)) (col (openFr f (bif isCol f c then isSet f set else false)) c.toNat)).hi<=1000)
  (o15:smallF f/\set.length<=64->(!decide (openF f (bif isCol f c then isSet f set else false)=0))=false->within (pointsP (openFr f (bif isCol f c then isSet f set else false)) set) (roomP (openFr f (bif isCol f c then isSet f set else false)) (highP (openFr f (bif isCol f c then isSet f set else false)) (col (openFr f (bif isCol f c then isSet f set else false)) c.toNat))).lo (roomP (openFr f (bif isCol f c then isSet f set else false)) (highP (openFr f (bif isCol f c then isSet f set else false)) (col (openFr f (bif isCol f c then isSet f set else false)) c.toNat))).hi=true->1=fitsP f c set)
  (o16:smallF f/\set.length<=64->(!decide (openF f (bif isCol f c then isSet f set else false)=0))=false->within (pointsP (openFr f (bif isCol f c then isSet f set else false)) set) (roomP (openFr f (bif isCol f c then isSet f set else false)) (highP (openFr f (bif isCol f c then isSet f set else false)) (col (openFr f (bif isCol f c then isSet f set else false)) c.toNat))).lo (roomP (openFr f (bif isCol f c then isSet f set else false)) (highP (openFr f (bif isCol f c then isSet f set else false)) (col (openFr f (bif isCol f c then isSet f set else false)) c.toNat))).hi=true->0=openF f (fitsG f c set))
  (o17:smallF f/\set.length<=64->(!decide (openF f (bif isCol f c then isSet f set else false)=0))=false->within (pointsP (openFr f (bif isCol f c then isSet f set else false)) set) (roomP (openFr f (bif isCol f c then isSet f set else false)) (highP (openFr f (bif isCol f c then isSet f set else false)) (col (openFr f (bif isCol f c then isSet f set else false)) c.toNat))).lo (roomP (openFr f (bif isCol f c then isSet f set else false)) (highP (openFr f (bif isCol f c then isSet f set else false)) (col (openFr f (bif isCol f c then isSet f set else false)) c.toNat))).hi=false->inI ((highP (openFr f (bif isCol f c then isSet f set else false)) (col (openFr f (bif isCol f c then isSet f set else false)) c.toNat)).hi + pointsP (openFr f (bif isCol f c then isSet f set else false)) set))
  (o18:smallF f/\set.length<=64->(!decide (openF f (bif isCol f c then isSet f set else false)=0))=false->within (pointsP (openFr f (bif isCol f c then isSet f set else false)) set) (roomP (openFr f (bif isCol f c then isSet f set else false)) (highP (openFr f (bif isCol f c then isSet f set else false)) (col (openFr f (bif isCol f c then isSet f set else false)) c.toNat))).lo (roomP (openFr f (bif isCol f c then isSet f set else false)) (highP (openFr f (bif isCol f c then isSet f set else false)) (col (openFr f (bif isCol f c then isSet f set else false)) c.toNat))).hi=false->inI ((openFr f (bif isCol f c then isSet f set else false)).length - (openFr f (bif isCol f c then isSet f set else false)).slack))
  (o19:smallF f/\set.length<=64->(!decide (openF f (bif isCol f c then isSet f set else false)=0))=false->within (pointsP (openFr f (bif isCol f c then isSet f set else false)) set) (roomP (openFr f (bif isCol f c then isSet f set else false)) (highP (openFr f (bif isCol f c then isSet f set else false)) (col (openFr f (bif isCol f c then isSet f set else false)) c.toNat))).lo (roomP (openFr f (bif isCol f c then isSet f set else false)) (highP (openFr f (bif isCol f c then isSet f set else false)) (col (openFr f (bif isCol f c then isSet f set else false)) c.toNat))).hi=false->(!decide ((highP (openFr f (bif isCol f c then isSet f set else false)) (col (openFr f (bif isCol f c then isSet f set else false)) c.toNat)).hi + pointsP (openFr f (bif isCol f c then isSet f set else false)) set < (openFr f (bif isCol f c then isSet f set else false)).length - (openFr f (bif isCol f c then isSet f set else false)).slack))=true->inI ((highP (openFr f (bif isCol f c then isSet f set else false)) (col (openFr f (bif isCol f c then isSet f set else false)) c.toNat)).lo + pointsP (openFr f (bif isCol f c then isSet f set else false)) set))
  (o20:smallF f/\set.length<=64->(!decide (openF f (bif isCol f c then isSet f set else false)=0))=false->within (pointsP (openFr f (bif isCol f c then isSet f set else false)) set) (roomP (openFr f (bif isCol f c then isSet f set else false)) (highP (openFr f (bif isCol f c then isSet f set else false)) (col (openFr f (bif isCol f c then isSet f set else false)) c.toNat))).lo (roomP (openFr f (bif isCol f c then isSet f set else false)) (highP (openFr f (bif isCol f c then isSet f set else false)) (col (openFr f (bif isCol f c then isSet f set else false)) c.toNat))).hi=false->decide ((highP (openFr f (bif isCol f c then isSet f set else false)) (col (openFr f (bif isCol f c then isSet f set else false)) c.toNat)).hi + pointsP (openFr f (bif isCol f c then isSet f set else false)) set < (openFr f (bif isCol f c then isSet f set else false)).length - (openFr f (bif isCol f c then isSet f set else false)).slack)=false->(!decide ((highP (openFr f (bif isCol f c then isSet f set else false)) (col (openFr f (bif isCol f c then isSet f set else false)) c.toNat)).hi + pointsP (openFr f (bif isCol f c then isSet f set else false)) set < (openFr f (bif isCol f c then isSet f set else false)).length - (openFr f (bif isCol f c then isSet f set else false)).slack))=true)
  (o21:smallF f/\set.length<=64->(!decide (openF f (bif isCol f c then isSet f set else false)=0))=false->within (pointsP (openFr f (bif isCol f c then isSet f set else false)) set) (roomP (openFr f (bif isCol f c then isSet f set else false)) (highP (openFr f (bif isCol f c then isSet f set else false)) (col (openFr f (bif isCol f c then isSet f set else false)) c.toNat))).lo (roomP (openFr f (bif isCol f c then isSet f set else false)) (highP (openFr f (bif isCol f c then isSet f set else false)) (col (openFr f (bif isCol f c then isSet f set else false)) c.toNat))).hi=false->(bif decide ((highP (openFr f (bif isCol f c then isSet f set else false)) (col (openFr f (bif isCol f c then isSet f set else false)) c.toNat)).hi + pointsP (openFr f (bif isCol f c then isSet f set else false)) set < (openFr f (bif isCol f c then isSet f set else false)).length - (openFr f (bif isCol f c then isSet f set else false)).slack) then true else decide ((openFr f (bif isCol f c then isSet f set else false)).length < (highP (openFr f (bif isCol f c then isSet f set else false)) (col (openFr f (bif isCol f c then isSet f set else false)) c.toNat)).lo + pointsP (openFr f (bif isCol f c then isSet f set else false)) set))=true->2=fitsP f c set)
  (o22:smallF f/\set.length<=64->(!decide (openF f (bif isCol f c then isSet f set else false)=0))=false->within (pointsP (openFr f (bif isCol f c then isSet f set else false)) set) (roomP (openFr f (bif isCol f c then isSet f set else false)) (highP (openFr f (bif isCol f c then isSet f set else false)) (col (openFr f (bif isCol f c then isSet f set else false)) c.toNat))).lo (roomP (openFr f (bif isCol f c then isSet f set else false)) (highP (openFr f (bif isCol f c then isSet f set else false)) (col (openFr f (bif isCol f c then isSet f set else false)) c.toNat))).hi=false->(bif decide ((highP (openFr f (bif isCol f c then isSet f set else false)) (col (openFr f (bif isCol f c then isSet f set else false)) c.toNat)).hi + pointsP (openFr f (bif isCol f c then isSet f set else false)) set < (openFr f (bif isCol f c then isSet f set else false)).length - (openFr f (bif isCol f c then isSet f set else false)).slack) then true else decide ((openFr f (bif isCol f c then isSet f set else false)).length < (highP (openFr f (bif isCol f c then isSet f set else false)) (col (openFr f (bif isCol f c then isSet f set else false)) c.toNat)).lo + pointsP (openFr f (bif isCol f c then isSet f set else false)) set))=true->0=openF f (fitsG f c set))
  (o23:smallF f/\set.length<=64->(!decide (openF f (bif isCol f c then isSet f set else false)=0))=false->within (pointsP (openFr f (bif isCol f c then isSet f set else false)) set) (roomP (openFr f (bif isCol f c then isSet f set else false)) (highP (openFr f (bif isCol f c then isSet f set else false)) (col (openFr f (bif isCol f c then isSet f set else false)) c.toNat))).lo (roomP (openFr f (bif isCol f c then isSet f set else false)) (highP (openFr f (bif isCol f c then isSet f set else false)) (col (openFr f (bif isCol f c then isSet f set else false)) c.toNat))).hi=false->(bif decide ((highP (openFr f (bif isCol f c then isSet f set else false)) (col (openFr f (bif isCol f c then isSet f set else false)) c.toNat)).hi + pointsP (openFr f (bif isCol f c then isSet f set else false)) set < (openFr f (bif isCol f c then isSet f set else false)).length - (openFr f (bif isCol f c then isSet f set else false)).slack) then true else decide ((openFr f (bif isCol f c then isSet f set else false)).length < (highP (openFr f (bif isCol f c then isSet f set else false)) (col (openFr f (bif isCol f c then isSet f set else false)) c.toNat)).lo + pointsP (openFr f (bif isCol f c then isSet f set else false)) set))=false->3=fitsP f c set)
  (o24:smallF f/\set.length<=64->(!decide (openF f (bif isCol f c then isSet f set else false)=0))=false->within (pointsP (openFr f (bif isCol f c then isSet f set else false)) set) (roomP (openFr f (bif isCol f c then isSet f set else false)) (highP (openFr f (bif isCol f c then isSet f set else false)) (col (openFr f (bif isCol f c then isSet f set else false)) c.toNat))).lo (roomP (openFr f (bif isCol f c then isSet f set else false)) (highP (openFr f (bif isCol f c then isSet f set else false)) (col (openFr f (bif isCol f c then isSet f set else false)) c.toNat))).hi=false->(bif decide ((highP (openFr f (bif isCol f c then isSet f set else false)) (col (openFr f (bif isCol f c then isSet f set else false)) c.toNat)).hi + pointsP (openFr f (bif isCol f c then isSet f set else false)) set < (openFr f (bif isCol f c then isSet f set else false)).length - (openFr f (bif isCol f c then isSet f set else false)).slack) then true else decide ((openFr f (bif isCol f c then isSet f set else false)).length < (highP (openFr f (bif isCol f c then isSet f set else false)) (col (openFr f (bif isCol f c then isSet f set else false)) c.toNat)).lo + pointsP (openFr f (bif isCol f c then isSet f set else false)) set))=false->0=openF f (fitsG f c set)) :
  Triple Try.prog 36 (s36 f c set):=by
 refine triple_of Try.func36 rfl Try.call36 T0_ok _ rfl rfl rfl rfl (Nat.le_of_ble_eq_true (by kernel_rfl)) (fun _ _ _ _ h=>h) ?_
 intro hpre C hC _ hE
 obtain ⟨P,w0,E0,av,hA,ro,df⟩:=C
 obtain ⟨rfl,rfl,rfl⟩:=hC
 refine swp_seq ?_
 refine zR [1,2,3] [0] (Ak 3 tv) ?_
 refine swp_seq ?_
 refine zC ([(3,CallSpec.eq (s84 f c) [true,true]),(7,CallSpec.eq (s98 f set) [true,false]),(9,CallSpec.eq (s83 f (bif isCol f c then isSet f set else false)) [true,true])]) [1,2,8,9] [128] (Ak 3 (An (An (An (zr (AV.agg (cFrm f))) (An (zr (iv c)) tv)) (An (t84 (f) (c)) (An (o0 hpre) (Ak 1 (fun (i0:Env)=>tv))))) (Ak 1 (An (fun (y1:isCol f c=true)=>(An (Ak 1 tv) tv)) (An (fun (y2:isCol f c=true)=>(An (Ak 1 tv) tv)) (An (fun (y3:isCol f c=true)=>(An (Ak 1 (An (fun (y4:isCol f c=true)=>y3) (An (fun (y5:isCol f c=true)=>y3) tv))) (An (An (zr (AV.agg (cFrm f))) (An (An (zr 1) (An (zr set.length) (fun (i6:Nat)=>(fun (y7:i6 < set.length)=>(zr ([iv (set.getD i6 0)])))))) tv)) (An (t98 (f) (set)) (An (An (o1 hpre y3) (o2 hpre y3)) (Ak 1 (fun (i8:Env)=>tv))))))) (An (An (fun (y9:isCol f c=true)=>y9) (fun (y10:isCol f c=false)=>tv)) (An (An (An (zr (AV.agg (cFrm f))) (An (zr (bv (bif isCol f c then isSet f set else false))) tv)) (An (t83 (f) (bif isCol f c then isSet f set else false)) (An hpre.1 (Ak 1 (fun (i11:Env)=>tv))))) (Ak 6 tv))))))))) ?_
 refine swp_seq ?_
 refine swp_seq ?_
 refine zR [1,2,8,9,27] [128] (Ak 2 tv) ?_
 refine zI (!decide (openF f (bif isCol f c then isSet f set else false)=0)) (fun y12 => ?_) (fun y12 => ?_)
 ·refine swp_seq ?_
  refine zR [6,7] [] (Ak 3 tv) ?_
  refine swp_ret ?_
  exact zT [] (An (Ak 2 tv) (An (An (An (ci (o3 hpre y12)) (zr nilN)) (An (An (ci (o4 hpre y12)) (zr nilN)) tv)) (An (zr true) (An (zr true) (zr true)))))
 ·refine swp_skip ?_
  refine swp_seq ?_
  refine zC ([(7,CallSpec.eq (s86 (openFr f (bif isCol f c then isSet f set else false)) (col (openFr f (bif isCol f c then isSet f set else false)) c.toNat)) [true,true]),(10,CallSpec.eq (s99 (openFr f (bif isCol f c then isSet f set else false)) set) [true,true])]) [8,10,11] [128,256] (Ak 5 (An (An (o5 hpre y12) (o6 hpre y12)) (Ak 1 (An (An (An (zr (AV.agg (cFrm (openFr f (bif isCol f c then isSet f set else false))))) (An (zr (aInts (col (openFr f (bif isCol f c then isSet f set else false)) c.toNat))) tv)) (An (t86 (openFr f (bif isCol f c then isSet f set else false)) (col (openFr f (bif isCol f c then isSet f set else false)) c.toNat)) (An (An (o7 hpre y12) (o8 hpre y12)) (Ak 1 (fun (i13:Env)=>tv))))) (Ak 2 (An (An (An (zr (AV.agg (cFrm (openFr f (bif isCol f c then isSet f set else false))))) (An (zr (aInts set)) tv)) (An (t99 (openFr f (bif isCol f c then isSet f set else false)) (set)) (An (An (o9 hpre y12) (o10 hpre y12)) (Ak 1 (fun (i14:Env)=>tv))))) (Ak 3 tv))))))) ?_
  refine swp_seq ?_
  refine swp_seq ?_
  refine zC ([(2,CallSpec.eq (s85 (openFr f (bif isCol f c then isSet f set else false)) (highP (openFr f (bif isCol f c then isSet f set else false)) (col (openFr f (bif isCol f c then isSet f set else false)) c.toNat))) [true,true])]) [8,10,11,12] [128,256,304] (Ak 2 (An (An (An (zr (AV.agg (cFrm (openFr f (bif isCol f c then isSet f set else false))))) (An (zr (AV.agg (cSpan (highP (openFr f (bif isCol f c then isSet f set else false)) (col (openFr f (bif isCol f c then isSet f set else false)) c.toNat))))) tv)) (An (t85 (openFr f (bif isCol f c then isSet f set else false)) (highP (openFr f (bif isCol f c then isSet f set else false)) (col (openFr f (bif isCol f c then isSet f set else false)) c.toNat))) (An (An (o11 hpre y12) (An (o12 hpre y12) (An (o13 hpre y12) (o14 hpre y12)))) (Ak 1 (fun (i15:Env)=>tv))))) (Ak 2 tv))) ?_
  refine swp_block ?_
  refine swp_seq ?_
  refine zC ([(5,CallSpec.eq (s93 (pointsP (openFr f (bif isCol f c then isSet f set else false)) set) (roomP (openFr f (bif isCol f c then isSet f set else false)) (highP (openFr f (bif isCol f c then isSet f set else false)) (col (openFr f (bif isCol f c then isSet f set else false)) c.toNat))).lo (roomP (openFr f (bif isCol f c then isSet f set else false)) (highP (openFr f (bif isCol f c then isSet f set else false)) (col (openFr f (bif isCol f c then isSet f set else false)) c.toNat))).hi) [true,true,true])]) [8,10,11,43] [128,256] (Ak 5 (An (An (An (zr (iv (pointsP (openFr f (bif isCol f c then isSet f set else false)) set))) (An (zr (iv (roomP (openFr f (bif isCol f c then isSet f set else false)) (highP (openFr f (bif isCol f c then isSet f set else false)) (col (openFr f (bif isCol f c then isSet f set else false)) c.toNat))).lo)) (An (zr (iv (roomP (openFr f (bif isCol f c then isSet f set else false)) (highP (openFr f (bif isCol f c then isSet f set else false)) (col (openFr f (bif isCol f c then isSet f set else false)) c.toNat))).hi)) tv))) (An (t93 (pointsP (openFr f (bif isCol f c then isSet f set else false)) set) (roomP (openFr f (bif isCol f c then isSet f set else false)) (highP (openFr f (bif isCol f c then isSet f set else false)) (col (openFr f (bif isCol f c then isSet f set else false)) c.toNat))).lo (roomP (openFr f (bif isCol f c then isSet f set else false)) (highP (openFr f (bif isCol f c then isSet f set else false)) (col (openFr f (bif isCol f c then isSet f set else false)) c.toNat))).hi) (Ak 2 (fun (i16:Env)=>tv)))) (Ak 1 tv))) ?_
  refine zI (within (pointsP (openFr f (bif isCol f c then isSet f set else false)) set) (roomP (openFr f (bif isCol f c then isSet f set else false)) (highP (openFr f (bif isCol f c then isSet f set else false)) (col (openFr f (bif isCol f c then isSet f set else false)) c.toNat))).lo (roomP (openFr f (bif isCol f c then isSet f set else false)) (highP (openFr f (bif isCol f c then isSet f set else false)) (col (openFr f (bif isCol f c then isSet f set else false)) c.toNat))).hi) (fun y17 => ?_) (fun y17 => ?_)
  ·refine swp_seq ?_
   refine zR [6,7] [] (Ak 2 tv) ?_
   refine swp_ret ?_
   exact zT [] (An (Ak 2 tv) (An (An (An (ci (o15 hpre y12 y17)) (zr nilN)) (An (An (ci (o16 hpre y12 y17)) (zr nilN)) tv)) (An (zr true) (An (zr true) (zr true)))))
  ·refine swp_seq ?_
   refine zR [50] [] (Ak 3 (An (o17 hpre y12 y17) (Ak 6 (An (o18 hpre y12 y17) (Ak 2 (An (fun (y18:(!decide ((highP (openFr f (bif isCol f c then isSet f set else false)) (col (openFr f (bif isCol f c then isSet f set else false)) c.toNat)).hi + pointsP (openFr f (bif isCol f c then isSet f set else false)) set < (openFr f (bif isCol f c then isSet f set else false)).length - (openFr f (bif isCol f c then isSet f set else false)).slack))=true)=>(An (Ak 1 tv) tv)) (An (fun (y19:(!decide ((highP (openFr f (bif isCol f c then isSet f set else false)) (col (openFr f (bif isCol f c then isSet f set else false)) c.toNat)).hi + pointsP (openFr f (bif isCol f c then isSet f set else false)) set < (openFr f (bif isCol f c then isSet f set else false)).length - (openFr f (bif isCol f c then isSet f set else false)).slack))=true)=>(An (An (fun (y20:(!decide ((highP (openFr f (bif isCol f c then isSet f set else false)) (col (openFr f (bif isCol f c then isSet f set else false)) c.toNat)).hi + pointsP (openFr f (bif isCol f c then isSet f set else false)) set < (openFr f (bif isCol f c then isSet f set else false)).length - (openFr f (bif isCol f c then isSet f set else false)).slack))=true)=>y19) tv) tv)) (An (fun (y21:(!decide ((highP (openFr f (bif isCol f c then isSet f set else false)) (col (openFr f (bif isCol f c then isSet f set else false)) c.toNat)).hi + pointsP (openFr f (bif isCol f c then isSet f set else false)) set < (openFr f (bif isCol f c then isSet f set else false)).length - (openFr f (bif isCol f c then isSet f set else false)).slack))=true)=>(An (Ak 1 tv) tv)) (An (fun (y22:(!decide ((highP (openFr f (bif isCol f c then isSet f set else false)) (col (openFr f (bif isCol f c then isSet f set else false)) c.toNat)).hi + pointsP (openFr f (bif isCol f c then isSet f set else false)) set < (openFr f (bif isCol f c then isSet f set else false)).length - (openFr f (bif isCol f c then isSet f set else false)).slack))=true)=>(An (An (fun (y23:(!decide ((highP (openFr f (bif isCol f c then isSet f set else false)) (col (openFr f (bif isCol f c then isSet f set else false)) c.toNat)).hi + pointsP (openFr f (bif isCol f c then isSet f set else false)) set < (openFr f (bif isCol f c then isSet f set else false)).length - (openFr f (bif isCol f c then isSet f set else false)).slack))=true)=>y22) (An (fun (y24:(!decide ((highP (openFr f (bif isCol f c then isSet f set else false)) (col (openFr f (bif isCol f c then isSet f set else false)) c.toNat)).hi + pointsP (openFr f (bif isCol f c then isSet f set else false)) set < (openFr f (bif isCol f c then isSet f set else false)).length - (openFr f (bif isCol f c then isSet f set else false)).slack))=true)=>y22) tv)) (o19 hpre y12 y17 y22))) (An (fun (y25:(!decide ((highP (openFr f (bif isCol f c then isSet f set else false)) (col (openFr f (bif isCol f c then isSet f set else false)) c.toNat)).hi + pointsP (openFr f (bif isCol f c then isSet f set else false)) set < (openFr f (bif isCol f c then isSet f set else false)).length - (openFr f (bif isCol f c then isSet f set else false)).slack))=true)=>(An (Ak 1 tv) tv)) (An (fun (y26:(!decide ((highP (openFr f (bif isCol f c then isSet f set else false)) (col (openFr f (bif isCol f c then isSet f set else false)) c.toNat)).hi + pointsP (openFr f (bif isCol f c then isSet f set else false)) set < (openFr f (bif isCol f c then isSet f set else false)).length - (openFr f (bif isCol f c then isSet f set else false)).slack))=true)=>(An (An (fun (y27:(!decide ((highP (openFr f (bif isCol f c then isSet f set else false)) (col (openFr f (bif isCol f c then isSet f set else false)) c.toNat)).hi + pointsP (openFr f (bif isCol f c then isSet f set else false)) set < (openFr f (bif isCol f c then isSet f set else false)).length - (openFr f (bif isCol f c then isSet f set else false)).slack))=true)=>y26) tv) tv)) (An (fun (y28:(!decide ((highP (openFr f (bif isCol f c then isSet f set else false)) (col (openFr f (bif isCol f c then isSet f set else false)) c.toNat)).hi + pointsP (openFr f (bif isCol f c then isSet f set else false)) set < (openFr f (bif isCol f c then isSet f set else false)).length - (openFr f (bif isCol f c then isSet f set else false)).slack))=true)=>(An (An (fun (y29:(!decide ((highP (openFr f (bif isCol f c then isSet f set else false)) (col (openFr f (bif isCol f c then isSet f set else false)) c.toNat)).hi + pointsP (openFr f (bif isCol f c then isSet f set else false)) set < (openFr f (bif isCol f c then isSet f set else false)).length - (openFr f (bif isCol f c then isSet f set else false)).slack))=true)=>y28) tv) tv)) (An (fun (y30:(!decide ((highP (openFr f (bif isCol f c then isSet f set else false)) (col (openFr f (bif isCol f c then isSet f set else false)) c.toNat)).hi + pointsP (openFr f (bif isCol f c then isSet f set else false)) set < (openFr f (bif isCol f c then isSet f set else false)).length - (openFr f (bif isCol f c then isSet f set else false)).slack))=true)=>(An (An (fun (y31:(!decide ((highP (openFr f (bif isCol f c then isSet f set else false)) (col (openFr f (bif isCol f c then isSet f set else false)) c.toNat)).hi + pointsP (openFr f (bif isCol f c then isSet f set else false)) set < (openFr f (bif isCol f c then isSet f set else false)).length - (openFr f (bif isCol f c then isSet f set else false)).slack))=true)=>y30) (An (fun (y32:(!decide ((highP (openFr f (bif isCol f c then isSet f set else false)) (col (openFr f (bif isCol f c then isSet f set else false)) c.toNat)).hi + pointsP (openFr f (bif isCol f c then isSet f set else false)) set < (openFr f (bif isCol f c then isSet f set else false)).length - (openFr f (bif isCol f c then isSet f set else false)).slack))=true)=>y30) tv)) tv)) (An (An (fun (y33:decide ((highP (openFr f (bif isCol f c then isSet f set else false)) (col (openFr f (bif isCol f c then isSet f set else false)) c.toNat)).hi + pointsP (openFr f (bif isCol f c then isSet f set else false)) set < (openFr f (bif isCol f c then isSet f set else false)).length - (openFr f (bif isCol f c then isSet f set else false)).slack)=true)=>tv) (fun (y34:decide ((highP (openFr f (bif isCol f c then isSet f set else false)) (col (openFr f (bif isCol f c then isSet f set else false)) c.toNat)).hi + pointsP (openFr f (bif isCol f c then isSet f set else false)) set < (openFr f (bif isCol f c then isSet f set else false)).length - (openFr f (bif isCol f c then isSet f set else false)).slack)=false)=>(o20 hpre y12 y17 y34))) (Ak 1 tv))))))))))))))) ?_
   refine zI (bif decide ((highP (openFr f (bif isCol f c then isSet f set else false)) (col (openFr f (bif isCol f c then isSet f set else false)) c.toNat)).hi + pointsP (openFr f (bif isCol f c then isSet f set else false)) set < (openFr f (bif isCol f c then isSet f set else false)).length - (openFr f (bif isCol f c then isSet f set else false)).slack) then true else decide ((openFr f (bif isCol f c then isSet f set else false)).length < (highP (openFr f (bif isCol f c then isSet f set else false)) (col (openFr f (bif isCol f c then isSet f set else false)) c.toNat)).lo + pointsP (openFr f (bif isCol f c then isSet f set else false)) set)) (fun y35 => ?_) (fun y35 => ?_)
   ·refine swp_seq ?_
    refine zR [6,7] [] (Ak 2 tv) ?_
    refine swp_ret ?_
    exact zT [] (An (Ak 2 tv) (An (An (An (ci (o21 hpre y12 y17 y35)) (zr nilN)) (An (An (ci (o22 hpre y12 y17 y35)) (zr nilN)) tv)) (An (zr true) (An (zr true) (zr true)))))
   ·refine swp_skip ?_
    refine swp_seq ?_
    refine zR [6,7] [] (Ak 2 tv) ?_
    refine swp_ret ?_
    exact zT [] (An (Ak 2 tv) (An (An (An (ci (o23 hpre y12 y17 y35)) (zr nilN)) (An (An (ci (o24 hpre y12 y17 y35)) (zr nilN)) tv)) (An (zr true) (An (zr true) (zr true)))))
theorem t36 (f:Frm) (c:Int) (set:List Int):Triple Try.prog 36 (s36 f c set):=by
 apply w36
 all_goals (first | ((repeat intro _) <;> (try simp only [Bool.cond_true_left,Bool.cond_false_right,Bool.not_not,Bool.not_eq_true',Bool.not_eq_false',Bool.or_eq_true,Bool.or_eq_false_iff,Bool.and_eq_true,decide_eq_true_eq,decide_eq_false_iff_not,inI,big,fitsF,smallF,goodL] at *) <;> first | (exact rfl) | omega | (exact ⟨Nat.zero_le _,fun j hj=>absurd hj (Nat.not_lt_zero j)⟩) | (simp_all; done) | (simp_all; omega)) | skip)
 case o0=>exact fun hp=>small_fits hp.1
 case o1=>exact fun hp _=>small_fits hp.1
 all_goals (intro hp h; simp only [bif_and] at h ⊢)
 case o3=>have e:=gate_bad h; simp [fitsP,fitsG,e]
 all_goals (obtain ⟨e1,e0,e2,e3,e4⟩:=gate_ok h; (try simp only [e2]))
 all_goals (simp only [Bool.and_eq_true] at e0; obtain ⟨e5,e6⟩:=e0)
 all_goals (have hc:=isCol_get e5; have hg:=col_good e3 c.toNat; have hb:=high_bound' e3 hg; have hq:=pts_bound e3 e6; have hl:=e3.len; have hk:=e3.slack)
 case o5=>exact hc.1
 case o6=>exact hc.2
 case o7 | o9 | o11=>exact e3
 case o8=>exact hg
 case o10=>exact e6
 case o12 | o13 | o14=>omega
 case o15=>intro h2; simp [fitsP,fitsG,fitsV,e1,e5,e6,h2]
 case o16=>intro _; exact e4.symm
 all_goals (intro h2)
 case o17 | o18=>exact ⟨by omega,by omega⟩
 all_goals (intro h3)
 case o19=>exact ⟨by omega,by omega⟩
 case o22 | o24=>exact e4.symm
 all_goals (have hgate:(okFrm f && fitsG f c set)=true:=by simp [fitsG,e1,e5,e6])
 all_goals (have hf2:=nt_ h2; try rw [bif_or] at h3)
 case o21=>unfold fitsP; rw [if_pos hgate]; unfold fitsV; rw [if_neg hf2,if_pos h3]
 case o23=>unfold fitsP; rw [if_pos hgate]; unfold fitsV; rw [if_neg hf2,if_neg (nt_ h3)]
 done
theorem w154 (ws:List Int) (p:Int)
  (o0:List.length ws<=65536->0=(↑0:Int))
  (o1:ws.length<=65536->0<=ws.length /\ ∀ (j:Nat),j < 0->decide (p=ws.getD j 0)=false)
  (o2:ws.length<=65536 -> ∀ (x0:Nat),(x0<=ws.length /\ ∀ (j:Nat),j < x0->decide (p=ws.getD j 0)=false)->decide ((x0:Int) < (↑(ws.length):Int))=true->0<=(x0:Int))
  (o3:ws.length<=65536 -> ∀ (x0:Nat),(x0<=ws.length /\ ∀ (j:Nat),j < x0->decide (p=ws.getD j 0)=false)->decide ((x0:Int) < (↑(ws.length):Int))=true->(x0:Int) < (↑(ws.length):Int))
  (o4:ws.length<=65536 -> ∀ (x0:Nat),(x0<=ws.length /\ ∀ (j:Nat),j < x0->decide (p=ws.getD j 0)=false)->decide ((x0:Int) < (↑(ws.length):Int))=true->decide (p=ws.getD x0 0)=true->(x0:Int)=idxI ws p)
  (o5:ws.length<=65536 -> ∀ (x0:Nat),(x0<=ws.length /\ ∀ (j:Nat),j < x0->decide (p=ws.getD j 0)=false)->decide ((x0:Int) < (↑(ws.length):Int))=true->decide (p=ws.getD x0 0)=false->inI ((x0:Int) + 1))
  (o6:ws.length<=65536 -> ∀ (x0:Nat),(x0<=ws.length /\ ∀ (j:Nat),j < x0->decide (p=ws.getD j 0)=false)->decide ((x0:Int) < (↑(ws.length):Int))=true->decide (p=ws.getD x0 0)=false->(x0:Int) + 1=(↑(x0 + 1):Int))
  (o7:ws.length<=65536 -> ∀ (x0:Nat),(x0<=ws.length /\ ∀ (j:Nat),j < x0->decide (p=ws.getD j 0)=false)->decide ((x0:Int) < (↑(ws.length):Int))=true->decide (p=ws.getD x0 0)=false->x0 + 1<=ws.length /\ ∀ (j:Nat),j < x0 + 1->decide (p=ws.getD j 0)=false)
  (o8:ws.length<=65536 -> ∀ (x0:Nat),(x0<=ws.length /\ ∀ (j:Nat),j < x0->decide (p=ws.getD j 0)=false)->decide ((x0:Int) < (↑(ws.length):Int))=true->decide (p=ws.getD x0 0)=false->ws.length - (x0 + 1) < ws.length - x0)
  (o9:ws.length<=65536 -> ∀ (x0:Nat),(x0<=ws.length /\ ∀ (j:Nat),j < x0->decide (p=ws.getD j 0)=false)->decide ((x0:Int) < (↑(ws.length):Int))=false -> -1=idxI ws p) :
  Triple Try.prog 154 (s154 ws p):=by
 refine triple_of Try.func154 rfl Try.call154 T0_ok _ rfl rfl rfl rfl (Nat.le_of_ble_eq_true (by kernel_rfl)) (fun _ _ _ _ h=>h) ?_
 intro hpre C hC _ hE
 obtain ⟨P,w0,E0,av,hA,ro,df⟩:=C
 obtain ⟨rfl,rfl,rfl⟩:=hC
 refine swp_seq ?_
 refine zR [0,1] [] (Ak 1 tv) ?_
 refine swp_seq ?_
 refine swp_seq ?_
 refine zR [0,1,7,8] [] (Ak 3 tv) ?_
 refine swp_block ?_
 refine zL (Hint.ann (h154 ws p) [(0,aInts ws),(1,iv p),(7,iv (↑(ws.length):Int))] [] 10032) (zE hE [] [] [0,1,7] [] (An (An (An (zr (aInts ws)) (zr true)) (An (An (zr (iv p)) (zr true)) (An (An (zr (iv (↑(ws.length):Int))) (zr true)) (An (An (ci (o0 hpre)) (zr nilN)) tv)))) (Ak 1 (An (zr true) (zr true))))) (o1 hpre) (fun (x0:Nat) hx0 => ?_)
 refine swp_seq ?_
 refine zR [0,1,7,8,9] [] (Ak 1 tv) ?_
 refine swp_seq ?_
 refine zI (decide ((x0:Int) < (↑(ws.length):Int))) (fun y1 => ?_) (fun y1 => ?_)
 ·refine swp_skip ?_
  refine swp_seq ?_
  refine swp_block ?_
  refine swp_seq ?_
  refine zR [0,1,7,8,5] [] (Ak 2 tv) ?_
  refine swp_seq ?_
  refine zR [0,1,7,8,5,16] [] (Ak 3 (An (An (o2 hpre x0 hx0 y1) (o3 hpre x0 hx0 y1)) (Ak 2 tv))) ?_
  refine zI (decide (p=ws.getD x0 0)) (fun y2 => ?_) (fun y2 => ?_)
  ·refine swp_seq ?_
   refine zR [4] [] (Ak 2 tv) ?_
   refine swp_ret ?_
   exact zT [] (An (Ak 1 tv) (An (An (ci (o4 hpre x0 hx0 y1 y2)) (zr nilN)) (An (zr true) (An (zr true) (zr true)))))
  ·refine swp_skip ?_
   refine zR [0,1,7,8] [] (An (o5 hpre x0 hx0 y1 y2) (Ak 1 tv)) ?_
   exact zn (zE hE [] [] [0,1,7] [] (An (An (An (zr (aInts ws)) (zr true)) (An (An (zr (iv p)) (zr true)) (An (An (zr (iv (↑(ws.length):Int))) (zr true)) (An (An (ci (o6 hpre x0 hx0 y1 y2)) (zr nilN)) tv)))) (Ak 1 (An (zr true) (zr true))))) (o7 hpre x0 hx0 y1 y2) (o8 hpre x0 hx0 y1 y2)
 ·refine swp_exit ?_
  refine swp_seq ?_
  refine zR [4] [] (Ak 1 tv) ?_
  refine swp_ret ?_
  exact zT [] (An (Ak 1 tv) (An (An (ci (o9 hpre x0 hx0 y1)) (zr nilN)) (An (zr true) (An (zr true) (zr true)))))
theorem t154 (ws:List Int) (p:Int):Triple Try.prog 154 (s154 ws p):=by
 apply w154
 all_goals (first | ((repeat intro _) <;> (try simp only [Bool.cond_true_left,Bool.cond_false_right,Bool.not_not,Bool.not_eq_true',Bool.not_eq_false',Bool.or_eq_true,Bool.or_eq_false_iff,Bool.and_eq_true,decide_eq_true_eq,decide_eq_false_iff_not,inI,big,fitsF,smallF,goodL] at *) <;> first | (exact rfl) | omega | (exact ⟨Nat.zero_le _,fun j hj=>absurd hj (Nat.not_lt_zero j)⟩) | (simp_all; done) | (simp_all; omega)) | skip)
 case o4=>intro hp x hx hl h; simp only [decide_eq_true_eq] at hl; exact (idxW_found (by omega) hx.2 h).symm
 case o7=>intro hp x hx hl h; simp only [decide_eq_true_eq] at hl; exact ⟨by omega,lt_succ_cases hx.2 h⟩
 case o9=>intro hp x hx hl; simp only [decide_eq_false_iff_not] at hl; exact (idxW_none (fun j hj=>hx.2 j (by omega))).symm
theorem w133 (f:Frm) (p:Int)
  (o0:Sound f->0=(↑0:Int))
  (o1:Sound f->0<=f.columns.length/\aboveTo f p 0=none)
  (o2:Sound f -> ∀ (x0:Nat),x0<=f.columns.length/\aboveTo f p x0=none->decide ((x0:Int) < (↑(f.columns.length):Int))=true->0<=(x0:Int))
  (o3:Sound f -> ∀ (x0:Nat),x0<=f.columns.length/\aboveTo f p x0=none->decide ((x0:Int) < (↑(f.columns.length):Int))=true->(x0:Int) < (↑(f.columns.length):Int))
  (o4:Sound f -> ∀ (x0:Nat),x0<=f.columns.length/\aboveTo f p x0=none->decide ((x0:Int) < (↑(f.columns.length):Int))=true->(col f x0).length<=65536)
  (o5:Sound f -> ∀ (x0:Nat),x0<=f.columns.length/\aboveTo f p x0=none->decide ((x0:Int) < (↑(f.columns.length):Int))=true->decide (0<=idxI (col f x0) p)=true->0<=idxI (col f x0) p)
  (o6:Sound f -> ∀ (x0:Nat),x0<=f.columns.length/\aboveTo f p x0=none->decide ((x0:Int) < (↑(f.columns.length):Int))=true->decide (0<=idxI (col f x0) p)=true->idxI (col f x0) p<=(↑((col f x0).length):Int))
  (o7:Sound f -> ∀ (x0:Nat),x0<=f.columns.length/\aboveTo f p x0=none->decide ((x0:Int) < (↑(f.columns.length):Int))=true->decide (0<=idxI (col f x0) p)=true->(x0:Int)=aboveC f p)
  (o8:Sound f -> ∀ (x0:Nat),x0<=f.columns.length/\aboveTo f p x0=none->decide ((x0:Int) < (↑(f.columns.length):Int))=true->decide (0<=idxI (col f x0) p)=true->(idxI (col f x0) p).toNat=(aboveL f p).length)
  (o9:Sound f -> ∀ (x0:Nat),x0<=f.columns.length/\aboveTo f p x0=none->decide ((x0:Int) < (↑(f.columns.length):Int))=true->decide (0<=idxI (col f x0) p)=true -> ∀ (i4:Nat),i4 < (aboveL f p).length -> [iv ((col f x0).getD i4 0)] = [iv ((aboveL f p).getD i4 0)])
  (o10:Sound f -> ∀ (x0:Nat),x0<=f.columns.length/\aboveTo f p x0=none->decide ((x0:Int) < (↑(f.columns.length):Int))=true->decide (0<=idxI (col f x0) p)=false->inI ((x0:Int) + 1))
  (o11:Sound f -> ∀ (x0:Nat),x0<=f.columns.length/\aboveTo f p x0=none->decide ((x0:Int) < (↑(f.columns.length):Int))=true->decide (0<=idxI (col f x0) p)=false->(x0:Int) + 1=(↑(x0 + 1):Int))
  (o12:Sound f -> ∀ (x0:Nat),x0<=f.columns.length/\aboveTo f p x0=none->decide ((x0:Int) < (↑(f.columns.length):Int))=true->decide (0<=idxI (col f x0) p)=false->x0 + 1<=f.columns.length/\aboveTo f p (x0 + 1)=none)
  (o13:Sound f -> ∀ (x0:Nat),x0<=f.columns.length/\aboveTo f p x0=none->decide ((x0:Int) < (↑(f.columns.length):Int))=true->decide (0<=idxI (col f x0) p)=false->f.columns.length - (x0 + 1) < f.columns.length - x0)
  (o14:Sound f -> ∀ (x0:Nat),x0<=f.columns.length/\aboveTo f p x0=none->decide ((x0:Int) < (↑(f.columns.length):Int))=false -> -1=aboveC f p)
  (o15:Sound f -> ∀ (x0:Nat),x0<=f.columns.length/\aboveTo f p x0=none->decide ((x0:Int) < (↑(f.columns.length):Int))=false->(aboveL f p).length=0) :
  Triple Try.prog 133 (s133 f p):=by
 refine triple_of Try.func133 rfl Try.call133 T0_ok _ rfl rfl rfl rfl (Nat.le_of_ble_eq_true (by kernel_rfl)) (fun _ _ _ _ h=>h) ?_
 intro hpre C hC _ hE
 obtain ⟨P,w0,E0,av,hA,ro,df⟩:=C
 obtain ⟨rfl,rfl,rfl⟩:=hC
 refine swp_seq ?_
 refine zR [1,2] [0] (Ak 3 tv) ?_
 refine swp_seq ?_
 refine swp_seq ?_
 refine zR [1,11,12,13] [] (Ak 5 tv) ?_
 refine swp_block ?_
 refine zL (Hint.ann (h133 f p) [(1,iv p),(11,AV.sl 1 f.columns.length fun (i:Nat)=>[aInts (col f i)]),(12,iv (↑(f.columns.length):Int))] [] 10064) (zE hE [] [] [1,11,12] [] (An (An (An (zr (iv p)) (zr true)) (An (An (zr (AV.sl 1 f.columns.length fun (i:Nat)=>[aInts (col f i)])) (zr true)) (An (An (zr (iv (↑(f.columns.length):Int))) (zr true)) (An (An (ci (o0 hpre)) (zr nilN)) tv)))) (Ak 1 (An (zr true) (zr true))))) (o1 hpre) (fun (x0:Nat) hx0 => ?_)
 refine swp_seq ?_
 refine zR [1,11,12,13,14] [] (Ak 1 tv) ?_
 refine swp_seq ?_
 refine zI (decide ((x0:Int) < (↑(f.columns.length):Int))) (fun y1 => ?_) (fun y1 => ?_)
 ·refine swp_skip ?_
  refine swp_seq ?_
  refine swp_block ?_
  refine swp_seq ?_
  refine zR [1,11,12,13,6,7] [] (Ak 1 (An (An (o2 hpre x0 hx0 y1) (o3 hpre x0 hx0 y1)) (Ak 3 tv))) ?_
  refine swp_seq ?_
  refine zC ([(2,CallSpec.eq (s154 (col f x0) p) [true,true])]) [1,11,12,13,6,7,8] [] (Ak 2 (An (An (An (zr (aInts (col f x0))) (An (zr (iv p)) tv)) (An (t154 (col f x0) (p)) (An (o4 hpre x0 hx0 y1) (Ak 1 (fun (i2:Env)=>tv))))) (Ak 1 tv))) ?_
  refine swp_seq ?_
  refine zR [1,11,12,13,6,7,8,22] [] (Ak 2 tv) ?_
  refine zI (decide (0<=idxI (col f x0) p)) (fun y3 => ?_) (fun y3 => ?_)
  ·refine swp_seq ?_
   refine zR [4,5] [] (Ak 3 (An (An (o5 hpre x0 hx0 y1 y3) (o6 hpre x0 hx0 y1 y3)) (Ak 2 tv))) ?_
   refine swp_ret ?_
   exact zT [] (An (Ak 2 tv) (An (An (An (ci (o7 hpre x0 hx0 y1 y3)) (zr nilN)) (An (An (zr 1) (An (o8 hpre x0 hx0 y1 y3) (fun (i4:Nat)=>(fun (y5:i4 < (aboveL f p).length)=>(o9 hpre x0 hx0 y1 y3 i4 y5))))) tv)) (An (zr true) (An (zr true) (zr true)))))
  ·refine swp_skip ?_
   refine zR [1,11,12,13] [] (An (o10 hpre x0 hx0 y1 y3) (Ak 1 tv)) ?_
   exact zn (zE hE [] [] [1,11,12] [] (An (An (An (zr (iv p)) (zr true)) (An (An (zr (AV.sl 1 f.columns.length fun (i:Nat)=>[aInts (col f i)])) (zr true)) (An (An (zr (iv (↑(f.columns.length):Int))) (zr true)) (An (An (ci (o11 hpre x0 hx0 y1 y3)) (zr nilN)) tv)))) (Ak 1 (An (zr true) (zr true))))) (o12 hpre x0 hx0 y1 y3) (o13 hpre x0 hx0 y1 y3)
 ·refine swp_exit ?_
  refine swp_seq ?_
  refine zR [4,5] [] (Ak 2 tv) ?_
  refine swp_ret ?_
  exact zT [] (An (Ak 2 tv) (An (An (An (ci (o14 hpre x0 hx0 y1)) (zr nilN)) (An (o15 hpre x0 hx0 y1) tv)) (An (zr true) (An (zr true) (zr true)))))
theorem t133 (f:Frm) (p:Int):Triple Try.prog 133 (s133 f p):=by
 apply w133
 all_goals (first | ((repeat intro _) <;> (try simp only [Bool.cond_true_left,Bool.cond_false_right,Bool.not_not,Bool.not_eq_true',Bool.not_eq_false',Bool.or_eq_true,Bool.or_eq_false_iff,Bool.and_eq_true,decide_eq_true_eq,decide_eq_false_iff_not,inI,big,fitsF,smallF,goodL] at *) <;> first | (exact rfl) | omega | (exact ⟨Nat.zero_le _,fun j hj=>absurd hj (Nat.not_lt_zero j)⟩) | (simp_all; done) | (simp_all; omega)) | skip)
 case o1=>intro hp; exact ⟨Nat.zero_le _,rfl⟩
 all_goals (intro hs x hx hl; simp only [decide_eq_true_eq,decide_eq_false_iff_not] at hl)
 all_goals (have hcl:=hs.colLen x; have hc3:=hs.columns)
 case o4=>omega
 case o6=>intro _; exact idxI_le _ _
 case o7=>intro h; unfold aboveC; rw [above_hit (by omega) hx.2 h]
 case o8=>intro h; unfold aboveL; rw [above_hit (by omega) hx.2 h]; have:=idxI_le (col f x) p; show _=((col f x).take _).length; rw [List.length_take]; omega
 case o9 =>
  intro h i hi
  unfold aboveL at hi ⊢
  rw [above_hit (by omega) hx.2 h] at hi ⊢
  show _ = [iv (((col f x).take _).getD i 0)]
  replace hi:i < ((col f x).take (idxI (col f x) p).toNat).length:=hi
  rw [List.length_take] at hi
  rw [getD_lt ((col f x).take _) 0 (by rw [List.length_take]; omega),List.getElem_take,getD_lt (col f x) 0 (by omega)]
 case o10=>intro _; exact ⟨by omega,by omega⟩
 case o12=>intro h; refine ⟨by omega,?_⟩; rw [aboveTo_succ,hx.2,h]; rfl
 all_goals (have ex:x=f.columns.length:=by omega)
 all_goals (subst ex)
 all_goals (have hn:aboveN f p=none:=hx.2)
 case o14=>unfold aboveC; rw [hn]
 case o15=>unfold aboveL; rw [hn]; rfl
theorem w104 (f:Frm) (one:Int) (other:Int)
  (o0:Sound f->decide (aboveC f one=aboveC f other)=true->0<=min (↑((aboveL f one).length):Int) (↑((aboveL f other).length):Int))
  (o1:Sound f->decide (aboveC f one=aboveC f other)=true->min (↑((aboveL f one).length):Int) (↑((aboveL f other).length):Int)<=(↑((aboveL f one).length):Int))
  (o2:Sound f->decide (aboveC f one=aboveC f other)=true->0<=min (↑((aboveL f one).length):Int) (↑((aboveL f other).length):Int))
  (o3:Sound f->decide (aboveC f one=aboveC f other)=true->min (↑((aboveL f one).length):Int) (↑((aboveL f other).length):Int)<=(↑((aboveL f other).length):Int))
  (o4:Sound f->decide (aboveC f one=aboveC f other)=true->(aboveL f one).length - (min (↑((aboveL f one).length):Int) (↑((aboveL f other).length):Int)).toNat=(gapU f one other one).length)
  (o5:Sound f->decide (aboveC f one=aboveC f other)=true -> ∀ (i3:Nat),i3 < (gapU f one other one).length -> [iv ((aboveL f one).getD ((min (↑((aboveL f one).length):Int) (↑((aboveL f other).length):Int)).toNat + i3) 0)] = [iv ((gapU f one other one).getD i3 0)])
  (o6:Sound f->decide (aboveC f one=aboveC f other)=true->goodL f (gapU f one other one))
  (o7:Sound f->decide (aboveC f one=aboveC f other)=true->(aboveL f other).length - (min (↑((aboveL f one).length):Int) (↑((aboveL f other).length):Int)).toNat=(gapU f one other other).length)
  (o8:Sound f->decide (aboveC f one=aboveC f other)=true -> ∀ (i6:Nat),i6 < (gapU f one other other).length -> [iv ((aboveL f other).getD ((min (↑((aboveL f one).length):Int) (↑((aboveL f other).length):Int)).toNat + i6) 0)] = [iv ((gapU f one other other).getD i6 0)])
  (o9:Sound f->decide (aboveC f one=aboveC f other)=true->goodL f (gapU f one other other))
  (o10:Sound f->decide (aboveC f one=aboveC f other)=true->inI ((highP f (gapU f one other other)).lo - (highP f (gapU f one other one)).hi))
  (o11:Sound f->decide (aboveC f one=aboveC f other)=true->inI ((highP f (gapU f one other other)).hi - (highP f (gapU f one other one)).lo))
  (o12:Sound f->decide (aboveC f one=aboveC f other)=true->(highP f (gapU f one other other)).lo - (highP f (gapU f one other one)).hi=(gapP f one other).lo)
  (o13:Sound f->decide (aboveC f one=aboveC f other)=true->(highP f (gapU f one other other)).hi - (highP f (gapU f one other one)).lo=(gapP f one other).hi)
  (o14:Sound f->decide (aboveC f one=aboveC f other)=false->(aboveL f one).length=(gapU f one other one).length)
  (o15:Sound f->decide (aboveC f one=aboveC f other)=false -> ∀ (i9:Nat),i9 < (gapU f one other one).length -> [iv ((aboveL f one).getD i9 0)] = [iv ((gapU f one other one).getD i9 0)])
  (o16:Sound f->decide (aboveC f one=aboveC f other)=false->goodL f (gapU f one other one))
  (o17:Sound f->decide (aboveC f one=aboveC f other)=false->(aboveL f other).length=(gapU f one other other).length)
  (o18:Sound f->decide (aboveC f one=aboveC f other)=false -> ∀ (i12:Nat),i12 < (gapU f one other other).length -> [iv ((aboveL f other).getD i12 0)] = [iv ((gapU f one other other).getD i12 0)])
  (o19:Sound f->decide (aboveC f one=aboveC f other)=false->goodL f (gapU f one other other))
  (o20:Sound f->decide (aboveC f one=aboveC f other)=false->inI ((highP f (gapU f one other other)).lo - (highP f (gapU f one other one)).hi))
  (o21:Sound f->decide (aboveC f one=aboveC f other)=false->inI ((highP f (gapU f one other other)).hi - (highP f (gapU f one other one)).lo))
  (o22:Sound f->decide (aboveC f one=aboveC f other)=false->(highP f (gapU f one other other)).lo - (highP f (gapU f one other one)).hi=(gapP f one other).lo)
  (o23:Sound f->decide (aboveC f one=aboveC f other)=false->(highP f (gapU f one other other)).hi - (highP f (gapU f one other one)).lo=(gapP f one other).hi) :
  Triple Try.prog 104 (s104 f one other):=by
 refine triple_of Try.func104 rfl Try.call104 T0_ok _ rfl rfl rfl rfl (Nat.le_of_ble_eq_true (by kernel_rfl)) (fun _ _ _ _ h=>h) ?_
 intro hpre C hC _ hE
 obtain ⟨P,w0,E0,av,hA,ro,df⟩:=C
 obtain ⟨rfl,rfl,rfl⟩:=hC
 refine swp_seq ?_
 refine zR [1,2,3,6] [0,8] (Ak 2 tv) ?_
 refine swp_seq ?_
 refine zC ([(2,CallSpec.eq (s133 f one) [true,true])]) [2,3,6,7,8] [0,8] (Ak 2 (An (An (An (zr (AV.agg (cFrm f))) (An (zr (iv one)) tv)) (An (t133 (f) (one)) (An hpre (Ak 1 (fun (i0:Env)=>tv))))) (Ak 5 tv))) ?_
 refine swp_seq ?_
 refine zC ([(2,CallSpec.eq (s133 f other) [true,true])]) [3,6,7,8,9,10] [0,8] (Ak 2 (An (An (An (zr (AV.agg (cFrm f))) (An (zr (iv other)) tv)) (An (t133 (f) (other)) (An hpre (Ak 1 (fun (i1:Env)=>tv))))) (Ak 5 tv))) ?_
 refine swp_seq ?_
 refine swp_seq ?_
 refine zR [3,6,8,10,28] [0,8] (Ak 3 tv) ?_
 refine zI (decide (aboveC f one=aboveC f other)) (fun y2 => ?_) (fun y2 => ?_)
 ·refine swp_seq ?_
  refine zR [3,6,8,10,11] [0,8] (Ak 6 tv) ?_
  refine zR [3,6,8,10] [0,8] (Ak 2 (An (An (o0 hpre y2) (o1 hpre y2)) (Ak 2 (An (An (o2 hpre y2) (o3 hpre y2)) (Ak 2 tv))))) ?_
  refine swp_seq ?_
  refine zC ([(2,CallSpec.eq (c104u f one other) [true,false]),(5,CallSpec.eq (c104d f one other) [true,false])]) [6,12,13] [8,328,336] (Ak 2 (An (An (An (zr (AV.agg (cFrm f))) (An (An (zr 1) (An (o4 hpre y2) (fun (i3:Nat)=>(fun (y4:i3 < (gapU f one other one).length)=>(o5 hpre y2 i3 y4))))) tv)) (An (t86 (f) (gapU f one other one)) (An (An hpre (o6 hpre y2)) (Ak 1 (fun (i5:Env)=>tv))))) (Ak 2 (An (An (An (zr (AV.agg (cFrm f))) (An (An (zr 1) (An (o7 hpre y2) (fun (i6:Nat)=>(fun (y7:i6 < (gapU f one other other).length)=>(o8 hpre y2 i6 y7))))) tv)) (An (t86 (f) (gapU f one other other)) (An (An hpre (o9 hpre y2)) (Ak 1 (fun (i8:Env)=>tv))))) (Ak 4 tv))))) ?_
  refine swp_seq ?_
  refine zR [6] [8] (Ak 4 (An (o10 hpre y2) (Ak 4 (An (o11 hpre y2) (Ak 2 tv))))) ?_
  refine swp_ret ?_
  exact zT [] (An (Ak 1 tv) (An (An (An (ci (o12 hpre y2)) (zr nilN)) (An (An (ci (o13 hpre y2)) (zr nilN)) tv)) (An (zr true) (An (zr true) (zr true)))))
 ·refine swp_skip ?_
  refine swp_seq ?_
  refine zC ([(2,CallSpec.eq (c104u f one other) [true,false]),(5,CallSpec.eq (c104d f one other) [true,false])]) [6,12,13] [8,216,224] (Ak 2 (An (An (An (zr (AV.agg (cFrm f))) (An (An (zr 1) (An (o14 hpre y2) (fun (i9:Nat)=>(fun (y10:i9 < (gapU f one other one).length)=>(o15 hpre y2 i9 y10))))) tv)) (An (t86 (f) (gapU f one other one)) (An (An hpre (o16 hpre y2)) (Ak 1 (fun (i11:Env)=>tv))))) (Ak 2 (An (An (An (zr (AV.agg (cFrm f))) (An (An (zr 1) (An (o17 hpre y2) (fun (i12:Nat)=>(fun (y13:i12 < (gapU f one other other).length)=>(o18 hpre y2 i12 y13))))) tv)) (An (t86 (f) (gapU f one other other)) (An (An hpre (o19 hpre y2)) (Ak 1 (fun (i14:Env)=>tv))))) (Ak 4 tv))))) ?_
  refine swp_seq ?_
  refine zR [6] [8] (Ak 4 (An (o20 hpre y2) (Ak 4 (An (o21 hpre y2) (Ak 2 tv))))) ?_
  refine swp_ret ?_
  exact zT [] (An (Ak 1 tv) (An (An (An (ci (o22 hpre y2)) (zr nilN)) (An (An (ci (o23 hpre y2)) (zr nilN)) tv)) (An (zr true) (An (zr true) (zr true)))))
theorem t104 (f:Frm) (one other:Int):Triple Try.prog 104 (s104 f one other):=by
 apply w104
 all_goals (first | ((repeat intro _) <;> (try simp only [Bool.cond_true_left,Bool.cond_false_right,Bool.not_not,Bool.not_eq_true',Bool.not_eq_false',Bool.or_eq_true,Bool.or_eq_false_iff,Bool.and_eq_true,decide_eq_true_eq,decide_eq_false_iff_not,inI,big,fitsF,smallF,goodL] at *) <;> first | (exact rfl) | omega | (exact ⟨Nat.zero_le _,fun j hj=>absurd hj (Nat.not_lt_zero j)⟩) | (simp_all; done) | (simp_all; omega)) | skip)
 all_goals (intro hs h)
 all_goals (have g1:=gapU_good hs one other one; have g2:=gapU_good hs one other other)
 all_goals (have b1:=high_bound' hs g1; have b2:=high_bound' hs g2)
 all_goals (first | exact g1 | exact g2 | exact ⟨by omega,by omega⟩ | rfl | skip)
 all_goals (simp only [decide_eq_true_eq,decide_eq_false_iff_not] at h)
 case o14 | o17=>rw [gapU_f h]
 case o15 | o18=>intro i _; rw [gapU_f h]
 all_goals (have em:(min ((aboveL f one).length:Int) ((aboveL f other).length:Int)).toNat=sameN f one other:=by unfold sameN; omega)
 case o4 | o7=>rw [gapU_t h,em,List.length_drop]
 case o5 | o8=>intro i _; rw [gapU_t h,em,getD_drop]
theorem w48 (f:Frm) (one:Int) (other:Int)
  (o0:smallF f->fitsF f)
  (o1:smallF f->isPc f one=true->fitsF f)
  (o2:smallF f->(!decide (openF f (bif isPc f one then isPc f other else false)=0))=true->0=(gapR f one other).lo)
  (o3:smallF f->(!decide (openF f (bif isPc f one then isPc f other else false)=0))=true->0=(gapR f one other).hi)
  (o4:smallF f->(!decide (openF f (bif isPc f one then isPc f other else false)=0))=true->openF f (bif isPc f one then isPc f other else false)=openF f (gapG f one other))
  (o5:smallF f->(!decide (openF f (bif isPc f one then isPc f other else false)=0))=false->Sound (openFr f (bif isPc f one then isPc f other else false)))
  (o6:smallF f->(!decide (openF f (bif isPc f one then isPc f other else false)=0))=false->(gapP (openFr f (bif isPc f one then isPc f other else false)) one other).lo=(gapR f one other).lo)
  (o7:smallF f->(!decide (openF f (bif isPc f one then isPc f other else false)=0))=false->(gapP (openFr f (bif isPc f one then isPc f other else false)) one other).hi=(gapR f one other).hi)
  (o8:smallF f->(!decide (openF f (bif isPc f one then isPc f other else false)=0))=false->0=openF f (gapG f one other)) :
  Triple Try.prog 48 (s48 f one other):=by
 refine triple_of Try.func48 rfl Try.call48 T0_ok _ rfl rfl rfl rfl (Nat.le_of_ble_eq_true (by kernel_rfl)) (fun _ _ _ _ h=>h) ?_
 intro hpre C hC _ hE
 obtain ⟨P,w0,E0,av,hA,ro,df⟩:=C
 obtain ⟨rfl,rfl,rfl⟩:=hC
 refine swp_seq ?_
 refine zR [1,2,3,6] [0,8] (Ak 3 tv) ?_
 refine swp_seq ?_
 refine zC ([(3,CallSpec.eq (s88 f one) [true,true]),(7,CallSpec.eq (s88 f other) [true,true]),(9,CallSpec.eq (s83 f (bif isPc f one then isPc f other else false)) [true,true])]) [1,2,6,8,9] [8,128] (Ak 3 (An (An (An (zr (AV.agg (cFrm f))) (An (zr (iv one)) tv)) (An (t88 (f) (one)) (An (o0 hpre) (Ak 1 (fun (i0:Env)=>tv))))) (Ak 1 (An (fun (y1:isPc f one=true)=>(An (Ak 1 tv) tv)) (An (fun (y2:isPc f one=true)=>(An (Ak 1 tv) tv)) (An (fun (y3:isPc f one=true)=>(An (Ak 1 (An (fun (y4:isPc f one=true)=>y3) (An (fun (y5:isPc f one=true)=>y3) tv))) (An (An (zr (AV.agg (cFrm f))) (An (zr (iv other)) tv)) (An (t88 (f) (other)) (An (o1 hpre y3) (Ak 1 (fun (i6:Env)=>tv))))))) (An (An (fun (y7:isPc f one=true)=>y7) (fun (y8:isPc f one=false)=>tv)) (An (An (An (zr (AV.agg (cFrm f))) (An (zr (bv (bif isPc f one then isPc f other else false))) tv)) (An (t83 (f) (bif isPc f one then isPc f other else false)) (An hpre (Ak 1 (fun (i9:Env)=>tv))))) (Ak 6 tv))))))))) ?_
 refine swp_seq ?_
 refine swp_seq ?_
 refine zR [1,2,6,8,9,24] [8,128] (Ak 2 tv) ?_
 refine zI (!decide (openF f (bif isPc f one then isPc f other else false)=0)) (fun y10 => ?_) (fun y10 => ?_)
 ·refine swp_seq ?_
  refine zR [6,7] [8] (Ak 4 tv) ?_
  refine swp_ret ?_
  exact zT [] (An (Ak 2 tv) (An (An (An (An (ci (o2 hpre y10)) (zr nilN)) (An (An (ci (o3 hpre y10)) (zr nilN)) tv)) (An (An (ci (o4 hpre y10)) (zr nilN)) tv)) (An (zr true) (An (zr true) (zr true)))))
 ·refine swp_skip ?_
  refine swp_seq ?_
  refine zC ([(3,CallSpec.eq (s104 (openFr f (bif isPc f one then isPc f other else false)) one other) [true,true,true])]) [6,7] [8] (Ak 3 (An (An (An (zr (AV.agg (cFrm (openFr f (bif isPc f one then isPc f other else false))))) (An (zr (iv one)) (An (zr (iv other)) tv))) (An (t104 (openFr f (bif isPc f one then isPc f other else false)) (one) (other)) (An (o5 hpre y10) (Ak 1 (fun (i11:Env)=>tv))))) (Ak 2 tv))) ?_
  refine swp_ret ?_
  exact zT [] (An (Ak 2 tv) (An (An (An (An (ci (o6 hpre y10)) (zr nilN)) (An (An (ci (o7 hpre y10)) (zr nilN)) tv)) (An (An (ci (o8 hpre y10)) (zr nilN)) tv)) (An (zr true) (An (zr true) (zr true)))))
theorem t48 (f:Frm) (one other:Int):Triple Try.prog 48 (s48 f one other):=by
 apply w48
 all_goals (first | ((repeat intro _) <;> (try simp only [Bool.cond_true_left,Bool.cond_false_right,Bool.not_not,Bool.not_eq_true',Bool.not_eq_false',Bool.or_eq_true,Bool.or_eq_false_iff,Bool.and_eq_true,decide_eq_true_eq,decide_eq_false_iff_not,inI,big,fitsF,smallF,goodL] at *) <;> first | (exact rfl) | omega | (exact ⟨Nat.zero_le _,fun j hj=>absurd hj (Nat.not_lt_zero j)⟩) | (simp_all; done) | (simp_all; omega)) | skip)
 case o0=>exact fun hp=>small_fits hp
 case o1=>exact fun hp _=>small_fits hp
 all_goals (intro hp h; simp only [bif_and] at h ⊢)
 case o2 | o3=>have e:=gate_bad h; simp [gapR,gapG,e]
 all_goals (obtain ⟨e1,e0,e2,e3,e4⟩:=gate_ok h; (try simp only [e2]))
 case o5=>exact e3
 case o6 | o7=>simp [gapR,gapG,e1,e0]
 case o8=>exact e4.symm
end Go.Ab
namespace Go.Sh
open Go.Ab
def cmpW (a b:Int):Int:=if a < b then -1 else if b < a then 1 else 0
def cmpL:List Int->List Int->Int
 | [],[]=>0
 | [],_ :: _ => -1
 | _ :: _,[]=>1
 | x :: xs,y :: ys=>if cmpW x y=0 then cmpL xs ys else cmpW x y
def orI (l:List Int):Int:=(l.find? fun w => !decide (w=0)).getD 0
def outTo (w:Int) (k:Nat):List Int:=(List.range k).filterMap fun (i:Nat)=>if bitP w (i:Int) then some (i:Int) else none
def penceP (f:Frm) (l:List Int):Int:=l.foldl (fun a p=>a + (pc f p.toNat).pence) 0
def outP (f:Frm) (w:Int):List Int:=outTo w f.pieces.length
abbrev Out:=Option (List Int × Int)
def outL (b:Out):List Int:=match b with | some x=>x.1 | none=>[]
def outN (b:Out):Int:=match b with | some x=>x.2 | none=>0
def worse (f:Frm) (b:Out) (w:Int):Bool:=match b with | some x=>decide (0<=orI [penceP f (outP f w) - x.2,((outP f w).length:Int) - (x.1.length:Int),cmpL (outP f w) x.1]) | none=>false
def stepO (f:Frm) (b:Out) (w:Nat):Out:=if worse f b (w:Int) || !(wholeP f (w:Int)).isSome then b else some (outP f (w:Int),penceP f (outP f (w:Int)))
def refTo (f:Frm) (n:Nat):Out:=(List.range n).foldl (stepO f) none
def refP (f:Frm):Out:=refTo f (2 ^ f.pieces.length)
def refuseL (f:Frm):List Int:=if okFrm f then outL (refP f) else []
def lostN (f:Frm):Int:=if okFrm f then outN (refP f) else 0
def refuseE (f:Frm):Int:=if okFrm f then (if (refP f).isSome then 0 else 3) else 30
end Go.Sh
namespace Go.Ab
open Go Go.RowKit Go.Proofs Go.Sh Go.En
def s171 (a:Int):CallSpec:={ args:=[iv a],res:=bv false }
def s153 (a b:Int):CallSpec:={ args:=[iv a,iv b],res:=iv (cmpW a b) }
def s132 (a b:List Int):CallSpec:={ args:=[aInts a,aInts b],res:=iv (cmpL a b),pre:=a.length<=65536/\b.length<=65536 }
def h132 (a b:List Int):Hint:={ X:=Nat,M:=fun i=>[(11,iv i)],I:=fun i=>i<=a.length/\i<=b.length /\ ∀ j,j < i->a.getD j 0=b.getD j 0,mu:=fun i=>a.length - i,x0:=(0:Nat),nx:=fun i=>i + 1 }
def s131 (ws:List Int):CallSpec:={ args:=[aInts ws],res:=iv (orI ws),pre:=ws.length<=65536 }
def h131 (ws:List Int):Hint:={ X:=Nat,M:=fun i=>[(8,iv i)],I:=fun i=>i<=ws.length /\ ∀ j,j < i->ws.getD j 0=0,mu:=fun i=>ws.length - i,x0:=(0:Nat),nx:=fun i=>i + 1 }
def s102 (f:Frm):CallSpec:={ args:=[vFrm f],res := .tup [aInts (outL (refP f)),iv (outN (refP f)),bv (refP f).isSome],pre:=Sound f }
def h102a (f:Frm):Hint:={ X:=Nat,M:=fun n=>[(2,aInts (outL (refTo f n))),(3,iv (outN (refTo f n))),(4,bv (refTo f n).isSome),(15,iv n)],I:=fun n=>n<=2 ^ f.pieces.length,mu:=fun n=>2 ^ f.pieces.length - n,x0:=(0:Nat),nx:=fun n=>n + 1 }
def h102b (f:Frm) (n:Nat):Hint:={ X:=Nat,M:=fun k=>[(6,.vec 5000),(7,iv (penceP f (outTo n k))),(22,iv k)],H:=fun k=>[(5000,rowI 3 (outTo n k))],I:=fun k=>k<=f.pieces.length,mu:=fun k=>f.pieces.length - k,x0:=(0:Nat),nx:=fun k=>k + 1 }
def c102c (f:Frm) (n:Nat):CallSpec:=s132 (outP f n) (outL (refTo f n))
def c102o (f:Frm) (n:Nat):CallSpec:=s131 [penceP f (outP f n) - outN (refTo f n),((outP f n).length:Int) - ((outL (refTo f n)).length:Int),cmpL (outP f n) (outL (refTo f n))]
def s42 (f:Frm):CallSpec:={ args:=[vFrm f],res := .tup [aInts (refuseL f),iv (refuseE f)],pre:=smallF f }
def s44 (f:Frm):CallSpec:={ args:=[vFrm f],res := .tup [iv (lostN f),iv (refuseE f)],pre:=smallF f }
end Go.Ab
namespace Go.Sh
open Go.Ab
variable {f:Frm}
theorem cmpW_zero {a b:Int} (h:cmpW a b=0):a=b:=by
 unfold cmpW at h
 split at h
 ·cases h
 ·split at h
  ·cases h
  ·omega
theorem cmpW_same (a:Int):cmpW a a=0:=by unfold cmpW; rw [if_neg (by omega),if_neg (by omega)]
theorem cmpL_at:∀ (i:Nat) (a b:List Int),i<=a.length->i<=b.length->(∀ j,j < i->a.getD j 0=b.getD j 0)->cmpL a b=cmpL (a.drop i) (b.drop i):=by
 intro i
 induction i with
 | zero=>intro a b _ _ _; rfl
 | succ i ih =>
  intro a b ha hb h
  match a,b,ha,hb,h with
  | x :: xs,y :: ys,ha,hb,h =>
   have e:x=y:=h 0 (Nat.succ_pos _)
   subst e
   rw [cmpL,if_pos (cmpW_same x)]
   exact ih xs ys (Nat.le_of_succ_le_succ ha) (Nat.le_of_succ_le_succ hb) (fun j hj=>h (j + 1) (Nat.succ_lt_succ hj))
theorem dropI_cons {l:List Int} {i:Nat} (h:i < l.length):l.drop i=l.getD i 0 :: l.drop (i + 1):=by
 rw [List.drop_eq_getElem_cons h,getD_lt _ _ h]
theorem dropI_nil {l:List Int} {i:Nat} (h:l.length<=i):l.drop i = []:=List.drop_eq_nil_of_le h
theorem orI_hit {l:List Int} {x:Nat} (hx:x < l.length) (h:∀ j,j < x->l.getD j 0=0) (hn:l.getD x 0 ≠ 0):orI l=l.getD x 0:=by
 have e:orI l=(((l.take x ++ l.drop x).find? fun w => !decide (w=0))).getD 0:=by rw [List.take_append_drop]; rfl
 have hz:(l.take x).find? (fun w => !decide (w=0))=none:=by
  rw [List.find?_eq_none]
  intro w hw
  obtain ⟨i,hi,e⟩:=List.getElem_of_mem hw
  rw [List.length_take] at hi
  have:=h i (by omega)
  rw [getD_lt _ _ (by omega)] at this
  rw [List.getElem_take] at e
  rw [← e,this]; decide
 rw [e,List.find?_append,hz,dropI_cons hx,List.find?_cons_of_pos (by simpa using hn)]
 rfl
theorem orI_zero {l:List Int} (h:∀ j,j < l.length->l.getD j 0=0):orI l=0:=by
 have hz:l.find? (fun w => !decide (w=0))=none:=by
  rw [List.find?_eq_none]
  intro w hw
  obtain ⟨i,hi,e⟩:=List.getElem_of_mem hw
  have:=h i hi
  rw [getD_lt _ _ hi,e] at this
  rw [this]; decide
 unfold orI; rw [hz]; rfl
theorem out_t {w:Int} {k:Nat} (h:bitP w (k:Int)=true):outTo w (k + 1)=outTo w k ++ [(k:Int)]:=by
 unfold outTo; rw [List.range_succ,List.filterMap_append]
 congr 1
 rw [List.filterMap_cons_some (b:=(k:Int)) (by rw [if_pos h])]; rfl
theorem out_f {w:Int} {k:Nat} (h:bitP w (k:Int)=false):outTo w (k + 1)=outTo w k:=by
 unfold outTo; rw [List.range_succ,List.filterMap_append,List.filterMap_cons_none (by rw [if_neg (nt_ h)])]
 exact List.append_nil _
theorem out_len (w:Int) (k:Nat):(outTo w k).length<=k:=by
 unfold outTo; exact Nat.le_trans (List.length_filterMap_le _ _) (by rw [List.length_range]; exact Nat.le_refl _)
theorem pence_snoc (f:Frm) (l:List Int) (k:Nat):penceP f (l ++ [(k:Int)])=penceP f l + (pc f k).pence:=by unfold penceP; rw [List.foldl_append]; rfl
theorem pence_in (hs:Sound f) (w:Int):∀ k,k<=f.pieces.length->0<=penceP f (outTo w k)/\penceP f (outTo w k)<=99 * k:=by
 intro k
 induction k with
 | zero=>intro _; exact ⟨Int.le_refl _,Int.le_refl _⟩
 | succ k ih =>
  intro hk
  have h1:=ih (by omega)
  have h2:=hs.piece k (by omega)
  cases e:bitP w (k:Int) with
  | true=>rw [out_t e,pence_snoc]; omega
  | false=>rw [out_f e]; omega
theorem ref_succ (f:Frm) (n:Nat):refTo f (n + 1)=stepO f (refTo f n) n:=by unfold refTo; rw [List.range_succ,List.foldl_append]; rfl
theorem ref_ok (hs:Sound f):∀ n x,refTo f n=some x->0<=x.2/\x.2<=594/\x.1.length<=6:=by
 intro n
 induction n with
 | zero=>intro x h; cases h
 | succ n ih =>
  intro x h
  rw [ref_succ] at h
  unfold stepO at h
  split at h
  ·exact ih x h
  ·cases h
   have h1:=pence_in hs (n:Int) f.pieces.length (Nat.le_refl _)
   have h2:=out_len (n:Int) f.pieces.length
   have h3:=hs.pieces
   exact ⟨h1.1,by show penceP f (outTo _ _)<=_; omega,by show (outTo _ _).length<=_; omega⟩
theorem refN_in (hs:Sound f) (n:Nat):0<=outN (refTo f n)/\outN (refTo f n)<=594/\(outL (refTo f n)).length<=6:=by
 have h:=ref_ok hs n
 cases e:refTo f n with
 | none=>exact ⟨Int.le_refl _,by show (0:Int)<=594; omega,Nat.zero_le _⟩
 | some x=>exact h x e
def worseB (f:Frm) (b:Out) (w:Int):Bool:=bif b.isSome then decide (0<=orI [penceP f (outP f w) - outN b,((outP f w).length:Int) - ((outL b).length:Int),cmpL (outP f w) (outL b)]) else false
theorem worse_eq (f:Frm) (b:Out) (w:Int):worse f b w=worseB f b w:=by cases b <;> rfl
theorem ref_old {n:Nat} (h:(bif worseB f (refTo f n) (n:Int) then true else !(wholeP f (n:Int)).isSome)=true):refTo f (n + 1)=refTo f n:=by
 rw [bif_or] at h
 rw [ref_succ]; unfold stepO; rw [worse_eq,if_pos h]
theorem ref_new {n:Nat} (h:(bif worseB f (refTo f n) (n:Int) then true else !(wholeP f (n:Int)).isSome)=false):refTo f (n + 1)=some (outP f (n:Int),penceP f (outP f (n:Int))):=by
 rw [bif_or] at h
 rw [ref_succ]; unfold stepO; rw [worse_eq,if_neg (nt_ h)]
theorem pow6 (hs:Sound f):2 ^ f.pieces.length<=64:=Nat.pow_le_pow_right (by omega) hs.pieces
theorem out_none {b:Out} (h:(!b.isSome)=true):b=none:=by cases b <;> first | rfl | cases h
theorem out_some {b:Out} (h:(!b.isSome)=false):b.isSome=true:=by cases b <;> first | rfl | cases h
theorem pow_cast (n:Nat):(1 * 2 ^ n:Int)=((2 ^ n:Nat):Int):=by simp
end Go.Sh
namespace Go.Ab
open Go Go.RowKit Go.Proofs Go.Sh Go.En
theorem w171 (a:Int)
  (o0:(!decide (a=a))=false) :
  Triple Try.prog 171 (s171 a):=by
 refine triple_of Try.func171 rfl Try.call171 T0_ok _ rfl rfl rfl rfl (Nat.le_of_ble_eq_true (by kernel_rfl)) (fun _ _ _ _ h=>h) ?_
 intro _ C hC _ hE
 obtain ⟨P,w0,E0,av,hA,ro,df⟩:=C
 obtain ⟨rfl,rfl,rfl⟩:=hC
 refine swp_seq ?_
 refine zR [0] [] (Ak 1 tv) ?_
 refine swp_seq ?_
 refine zR [2] [] (Ak 4 tv) ?_
 refine swp_ret ?_
 exact zT [] (An (Ak 1 tv) (An (An (cb (o0)) (zr nilN)) (An (zr true) (An (zr true) (zr true)))))
theorem t171 (a:Int):Triple Try.prog 171 (s171 a):=by
 apply w171
 all_goals simp
theorem w153 (a:Int) (b:Int)
  (o0:decide (a < b)=true -> -1=cmpW a b)
  (o1:decide (a < b)=false->decide (b < a)=true->1=cmpW a b)
  (o2:decide (a < b)=false->decide (b < a)=false->0=cmpW a b) :
  Triple Try.prog 153 (s153 a b):=by
 refine triple_of Try.func153 rfl Try.call153 T0_ok _ rfl rfl rfl rfl (Nat.le_of_ble_eq_true (by kernel_rfl)) (fun _ _ _ _ h=>h) ?_
 intro _ C hC _ hE
 obtain ⟨P,w0,E0,av,hA,ro,df⟩:=C
 obtain ⟨rfl,rfl,rfl⟩:=hC
 refine swp_seq ?_
 refine zR [0,1] [] (Ak 1 tv) ?_
 refine swp_seq ?_
 refine zC ([(1,CallSpec.eq (s171 a) [true])]) [0,1,5] [] (Ak 1 (An (An (An (zr (iv a)) tv) (An (t171 (a)) (Ak 2 (fun (i0:Env)=>tv)))) (Ak 1 tv))) ?_
 refine swp_seq ?_
 refine zC ([(1,CallSpec.eq (s171 b) [true])]) [0,1,5,6] [] (Ak 1 (An (An (An (zr (iv b)) tv) (An (t171 (b)) (Ak 2 (fun (i1:Env)=>tv)))) (Ak 1 tv))) ?_
 refine swp_seq ?_
 refine swp_seq ?_
 refine zR [0,1,6,11] [] (Ak 1 tv) ?_
 refine zf ?_
 refine swp_skip ?_
 refine swp_seq ?_
 refine swp_seq ?_
 refine zR [0,1,13] [] (Ak 1 tv) ?_
 refine zf ?_
 refine swp_skip ?_
 refine swp_seq ?_
 refine swp_seq ?_
 refine zR [0,1,16] [] (Ak 3 tv) ?_
 refine zI (decide (a < b)) (fun y2 => ?_) (fun y2 => ?_)
 ·refine swp_seq ?_
  refine zR [4] [] (Ak 1 tv) ?_
  refine swp_ret ?_
  exact zT [] (An (Ak 1 tv) (An (An (ci (o0 y2)) (zr nilN)) (An (zr true) (An (zr true) (zr true)))))
 ·refine swp_skip ?_
  refine swp_seq ?_
  refine swp_seq ?_
  refine zR [19] [] (Ak 3 tv) ?_
  refine zI (decide (b < a)) (fun y3 => ?_) (fun y3 => ?_)
  ·refine swp_seq ?_
   refine zR [4] [] (Ak 1 tv) ?_
   refine swp_ret ?_
   exact zT [] (An (Ak 1 tv) (An (An (ci (o1 y2 y3)) (zr nilN)) (An (zr true) (An (zr true) (zr true)))))
  ·refine swp_skip ?_
   refine swp_seq ?_
   refine zR [4] [] (Ak 1 tv) ?_
   refine swp_ret ?_
   exact zT [] (An (Ak 1 tv) (An (An (ci (o2 y2 y3)) (zr nilN)) (An (zr true) (An (zr true) (zr true)))))
theorem t153 (a b:Int):Triple Try.prog 153 (s153 a b):=by
 apply w153
 all_goals ((repeat intro _); simp_all [cmpW])
 all_goals (rw [if_neg (by omega),if_neg (by omega)])
theorem w132 (a:List Int) (b:List Int)
  (o0:a.length<=65536/\b.length<=65536->0=(↑0:Int))
  (o1:a.length<=65536/\b.length<=65536->0<=a.length/\0<=b.length /\ ∀ (j:Nat),j < 0->a.getD j 0=b.getD j 0)
  (o2:a.length<=65536/\b.length<=65536 -> ∀ (x0:Nat),(x0<=a.length/\x0<=b.length /\ ∀ (j:Nat),j < x0->a.getD j 0=b.getD j 0)->decide ((x0:Int) < (↑(a.length):Int))=true->0<=(x0:Int))
  (o3:a.length<=65536/\b.length<=65536 -> ∀ (x0:Nat),(x0<=a.length/\x0<=b.length /\ ∀ (j:Nat),j < x0->a.getD j 0=b.getD j 0)->decide ((x0:Int) < (↑(a.length):Int))=true->(x0:Int) < (↑(a.length):Int))
  (o4:a.length<=65536/\b.length<=65536 -> ∀ (x0:Nat),(x0<=a.length/\x0<=b.length /\ ∀ (j:Nat),j < x0->a.getD j 0=b.getD j 0)->decide ((x0:Int) < (↑(a.length):Int))=true->decide ((↑(b.length):Int)<=(x0:Int))=true->1=cmpL a b)
  (o5:a.length<=65536/\b.length<=65536 -> ∀ (x0:Nat),(x0<=a.length/\x0<=b.length /\ ∀ (j:Nat),j < x0->a.getD j 0=b.getD j 0)->decide ((x0:Int) < (↑(a.length):Int))=true->decide ((↑(b.length):Int)<=(x0:Int))=false->0<=(x0:Int))
  (o6:a.length<=65536/\b.length<=65536 -> ∀ (x0:Nat),(x0<=a.length/\x0<=b.length /\ ∀ (j:Nat),j < x0->a.getD j 0=b.getD j 0)->decide ((x0:Int) < (↑(a.length):Int))=true->decide ((↑(b.length):Int)<=(x0:Int))=false->(x0:Int) < (↑(b.length):Int))
  (o7:a.length<=65536/\b.length<=65536 -> ∀ (x0:Nat),(x0<=a.length/\x0<=b.length /\ ∀ (j:Nat),j < x0->a.getD j 0=b.getD j 0)->decide ((x0:Int) < (↑(a.length):Int))=true->decide ((↑(b.length):Int)<=(x0:Int))=false->(!decide (cmpW (a.getD x0 0) (b.getD x0 0)=0))=true->cmpW (a.getD x0 0) (b.getD x0 0)=cmpL a b)
  (o8:a.length<=65536/\b.length<=65536 -> ∀ (x0:Nat),(x0<=a.length/\x0<=b.length /\ ∀ (j:Nat),j < x0->a.getD j 0=b.getD j 0)->decide ((x0:Int) < (↑(a.length):Int))=true->decide ((↑(b.length):Int)<=(x0:Int))=false->(!decide (cmpW (a.getD x0 0) (b.getD x0 0)=0))=false->inI ((x0:Int) + 1))
  (o9:a.length<=65536/\b.length<=65536 -> ∀ (x0:Nat),(x0<=a.length/\x0<=b.length /\ ∀ (j:Nat),j < x0->a.getD j 0=b.getD j 0)->decide ((x0:Int) < (↑(a.length):Int))=true->decide ((↑(b.length):Int)<=(x0:Int))=false->(!decide (cmpW (a.getD x0 0) (b.getD x0 0)=0))=false->(x0:Int) + 1=(↑(x0 + 1):Int))
  (o10:a.length<=65536/\b.length<=65536 -> ∀ (x0:Nat),(x0<=a.length/\x0<=b.length /\ ∀ (j:Nat),j < x0->a.getD j 0=b.getD j 0)->decide ((x0:Int) < (↑(a.length):Int))=true->decide ((↑(b.length):Int)<=(x0:Int))=false->(!decide (cmpW (a.getD x0 0) (b.getD x0 0)=0))=false->x0 + 1<=a.length/\x0 + 1<=b.length /\ ∀ (j:Nat),j < x0 + 1->a.getD j 0=b.getD j 0)
  (o11:a.length<=65536/\b.length<=65536 -> ∀ (x0:Nat),(x0<=a.length/\x0<=b.length /\ ∀ (j:Nat),j < x0->a.getD j 0=b.getD j 0)->decide ((x0:Int) < (↑(a.length):Int))=true->decide ((↑(b.length):Int)<=(x0:Int))=false->(!decide (cmpW (a.getD x0 0) (b.getD x0 0)=0))=false->a.length - (x0 + 1) < a.length - x0)
  (o12:a.length<=65536/\b.length<=65536 -> ∀ (x0:Nat),(x0<=a.length/\x0<=b.length /\ ∀ (j:Nat),j < x0->a.getD j 0=b.getD j 0)->decide ((x0:Int) < (↑(a.length):Int))=false->decide ((↑(a.length):Int) < (↑(b.length):Int))=true -> -1=cmpL a b)
  (o13:a.length<=65536/\b.length<=65536 -> ∀ (x0:Nat),(x0<=a.length/\x0<=b.length /\ ∀ (j:Nat),j < x0->a.getD j 0=b.getD j 0)->decide ((x0:Int) < (↑(a.length):Int))=false->decide ((↑(a.length):Int) < (↑(b.length):Int))=false->0=cmpL a b) :
  Triple Try.prog 132 (s132 a b):=by
 refine triple_of Try.func132 rfl Try.call132 T0_ok _ rfl rfl rfl rfl (Nat.le_of_ble_eq_true (by kernel_rfl)) (fun _ _ _ _ h=>h) ?_
 intro hpre C hC _ hE
 obtain ⟨P,w0,E0,av,hA,ro,df⟩:=C
 obtain ⟨rfl,rfl,rfl⟩:=hC
 refine swp_seq ?_
 refine zR [0,1] [] (Ak 1 tv) ?_
 refine swp_seq ?_
 refine swp_seq ?_
 refine zR [0,1,9,10,11] [] (Ak 3 tv) ?_
 refine swp_block ?_
 refine zL (Hint.ann (h132 a b) [(0,aInts a),(1,aInts b),(9,aInts a),(10,iv (↑(a.length):Int))] [] 10032) (zE hE [] [] [0,1,9,10] [] (An (An (An (zr (aInts a)) (zr true)) (An (An (zr (aInts b)) (zr true)) (An (An (zr (aInts a)) (zr true)) (An (An (zr (iv (↑(a.length):Int))) (zr true)) (An (An (ci (o0 hpre)) (zr nilN)) tv))))) (Ak 1 (An (zr true) (zr true))))) (o1 hpre) (fun (x0:Nat) hx0 => ?_)
 refine swp_seq ?_
 refine zR [0,1,9,10,11,12] [] (Ak 1 tv) ?_
 refine swp_seq ?_
 refine zI (decide ((x0:Int) < (↑(a.length):Int))) (fun y1 => ?_) (fun y1 => ?_)
 ·refine swp_skip ?_
  refine swp_seq ?_
  refine swp_block ?_
  refine swp_seq ?_
  refine zR [0,1,9,10,11,5,6] [] (Ak 1 (An (An (o2 hpre x0 hx0 y1) (o3 hpre x0 hx0 y1)) (Ak 3 tv))) ?_
  refine swp_seq ?_
  refine swp_seq ?_
  refine zR [0,1,9,10,11,5,6,19] [] (Ak 4 tv) ?_
  refine zI (decide ((↑(b.length):Int)<=(x0:Int))) (fun y2 => ?_) (fun y2 => ?_)
  ·refine swp_seq ?_
   refine zR [4] [] (Ak 1 tv) ?_
   refine swp_ret ?_
   exact zT [] (An (Ak 1 tv) (An (An (ci (o4 hpre x0 hx0 y1 y2)) (zr nilN)) (An (zr true) (An (zr true) (zr true)))))
  ·refine swp_skip ?_
   refine swp_seq ?_
   refine zR [0,1,9,10,11,6,7] [] (Ak 2 (An (An (o5 hpre x0 hx0 y1 y2) (o6 hpre x0 hx0 y1 y2)) (Ak 2 tv))) ?_
   refine swp_seq ?_
   refine zC ([(2,CallSpec.eq (s153 (a.getD x0 0) (b.getD x0 0)) [true,true])]) [0,1,9,10,11,8] [] (Ak 2 (An (An (An (zr (iv (a.getD x0 0))) (An (zr (iv (b.getD x0 0))) tv)) (An (t153 (a.getD x0 0) (b.getD x0 0)) (Ak 2 (fun (i3:Env)=>tv)))) (Ak 1 tv))) ?_
   refine swp_seq ?_
   refine zR [0,1,9,10,11,8,28] [] (Ak 2 tv) ?_
   refine zI (!decide (cmpW (a.getD x0 0) (b.getD x0 0)=0)) (fun y4 => ?_) (fun y4 => ?_)
   ·refine swp_seq ?_
    refine zR [4] [] (Ak 2 tv) ?_
    refine swp_ret ?_
    exact zT [] (An (Ak 1 tv) (An (An (ci (o7 hpre x0 hx0 y1 y2 y4)) (zr nilN)) (An (zr true) (An (zr true) (zr true)))))
   ·refine swp_skip ?_
    refine zR [0,1,9,10,11] [] (An (o8 hpre x0 hx0 y1 y2 y4) (Ak 1 tv)) ?_
    exact zn (zE hE [] [] [0,1,9,10] [] (An (An (An (zr (aInts a)) (zr true)) (An (An (zr (aInts b)) (zr true)) (An (An (zr (aInts a)) (zr true)) (An (An (zr (iv (↑(a.length):Int))) (zr true)) (An (An (ci (o9 hpre x0 hx0 y1 y2 y4)) (zr nilN)) tv))))) (Ak 1 (An (zr true) (zr true))))) (o10 hpre x0 hx0 y1 y2 y4) (o11 hpre x0 hx0 y1 y2 y4)
 ·refine swp_exit ?_
  refine swp_seq ?_
  refine swp_seq ?_
  refine zR [35] [] (Ak 5 tv) ?_
  refine zI (decide ((↑(a.length):Int) < (↑(b.length):Int))) (fun y5 => ?_) (fun y5 => ?_)
  ·refine swp_seq ?_
   refine zR [4] [] (Ak 1 tv) ?_
   refine swp_ret ?_
   exact zT [] (An (Ak 1 tv) (An (An (ci (o12 hpre x0 hx0 y1 y5)) (zr nilN)) (An (zr true) (An (zr true) (zr true)))))
  ·refine swp_skip ?_
   refine swp_seq ?_
   refine zR [4] [] (Ak 1 tv) ?_
   refine swp_ret ?_
   exact zT [] (An (Ak 1 tv) (An (An (ci (o13 hpre x0 hx0 y1 y5)) (zr nilN)) (An (zr true) (An (zr true) (zr true)))))
theorem t132 (a b:List Int):Triple Try.prog 132 (s132 a b):=by
 apply w132
 case o0=>(repeat intro _); rfl
 case o1=>exact fun _=>⟨Nat.zero_le _,Nat.zero_le _,fun j hj=>absurd hj (Nat.not_lt_zero _)⟩
 all_goals (intro hp x hx hl; obtain ⟨h1,h2,h3⟩:=hx; simp only [decide_eq_true_eq,decide_eq_false_iff_not] at hl; have e:=cmpL_at x a b h1 h2 h3)
 case o2=>omega
 case o3=>exact hl
 case o4 =>
  intro h; simp only [decide_eq_true_eq] at h
  rw [e,dropI_cons (l:=a) (by omega),dropI_nil (l:=b) (by omega)]; rfl
 case o12 =>
  intro h; simp only [decide_eq_true_eq] at h
  rw [e,dropI_cons (l:=b) (by omega),dropI_nil (l:=a) (by omega)]; rfl
 case o13 =>
  intro h; simp only [decide_eq_false_iff_not] at h
  rw [e,dropI_nil (l:=a) (by omega),dropI_nil (l:=b) (by omega)]; rfl
 all_goals (intro h; simp only [decide_eq_false_iff_not] at h)
 case o5=>omega
 case o6=>omega
 all_goals (intro h4)
 case o7 =>
  rw [e,dropI_cons (l:=a) (by omega),dropI_cons (l:=b) (by omega),cmpL,if_neg (by simpa using h4)]
 case o8=>exact ⟨by omega,by omega⟩
 case o9=>rfl
 case o10 =>
  simp only [Bool.not_eq_false',decide_eq_true_eq] at h4
  exact ⟨by omega,by omega,lt_succ_cases h3 (cmpW_zero h4)⟩
 case o11=>omega
theorem w131 (ws:List Int)
  (o0:List.length ws<=65536->0=(↑0:Int))
  (o1:ws.length<=65536->0<=ws.length /\ ∀ (j:Nat),j < 0->ws.getD j 0=0)
  (o2:ws.length<=65536 -> ∀ (x0:Nat),(x0<=ws.length /\ ∀ (j:Nat),j < x0->ws.getD j 0=0)->decide ((x0:Int) < (↑(ws.length):Int))=true->0<=(x0:Int))
  (o3:ws.length<=65536 -> ∀ (x0:Nat),(x0<=ws.length /\ ∀ (j:Nat),j < x0->ws.getD j 0=0)->decide ((x0:Int) < (↑(ws.length):Int))=true->(x0:Int) < (↑(ws.length):Int))
  (o4:ws.length<=65536 -> ∀ (x0:Nat),(x0<=ws.length /\ ∀ (j:Nat),j < x0->ws.getD j 0=0)->decide ((x0:Int) < (↑(ws.length):Int))=true->(!decide (ws.getD x0 0=0))=true->ws.getD x0 0=orI ws)
  (o5:ws.length<=65536 -> ∀ (x0:Nat),(x0<=ws.length /\ ∀ (j:Nat),j < x0->ws.getD j 0=0)->decide ((x0:Int) < (↑(ws.length):Int))=true->(!decide (ws.getD x0 0=0))=false->inI ((x0:Int) + 1))
  (o6:ws.length<=65536 -> ∀ (x0:Nat),(x0<=ws.length /\ ∀ (j:Nat),j < x0->ws.getD j 0=0)->decide ((x0:Int) < (↑(ws.length):Int))=true->(!decide (ws.getD x0 0=0))=false->(x0:Int) + 1=(↑(x0 + 1):Int))
  (o7:ws.length<=65536 -> ∀ (x0:Nat),(x0<=ws.length /\ ∀ (j:Nat),j < x0->ws.getD j 0=0)->decide ((x0:Int) < (↑(ws.length):Int))=true->(!decide (ws.getD x0 0=0))=false->x0 + 1<=ws.length /\ ∀ (j:Nat),j < x0 + 1->ws.getD j 0=0)
  (o8:ws.length<=65536 -> ∀ (x0:Nat),(x0<=ws.length /\ ∀ (j:Nat),j < x0->ws.getD j 0=0)->decide ((x0:Int) < (↑(ws.length):Int))=true->(!decide (ws.getD x0 0=0))=false->ws.length - (x0 + 1) < ws.length - x0)
  (o9:ws.length<=65536 -> ∀ (x0:Nat),(x0<=ws.length /\ ∀ (j:Nat),j < x0->ws.getD j 0=0)->decide ((x0:Int) < (↑(ws.length):Int))=false->0=orI ws) :
  Triple Try.prog 131 (s131 ws):=by
 refine triple_of Try.func131 rfl Try.call131 T0_ok _ rfl rfl rfl rfl (Nat.le_of_ble_eq_true (by kernel_rfl)) (fun _ _ _ _ h=>h) ?_
 intro hpre C hC _ hE
 obtain ⟨P,w0,E0,av,hA,ro,df⟩:=C
 obtain ⟨rfl,rfl,rfl⟩:=hC
 refine swp_seq ?_
 refine zR [0] [] (Ak 1 tv) ?_
 refine swp_seq ?_
 refine zR [0,3] [] (Ak 1 tv) ?_
 refine swp_seq ?_
 refine swp_seq ?_
 refine zR [3,6,7,8] [] (Ak 3 tv) ?_
 refine swp_block ?_
 refine zL (Hint.ann (h131 ws) [(3,iv 0),(6,aInts ws),(7,iv (↑(ws.length):Int))] [] 10040) (zE hE [] [] [3,6,7] [] (An (An (An (zr (iv 0)) (zr true)) (An (An (zr (aInts ws)) (zr true)) (An (An (zr (iv (↑(ws.length):Int))) (zr true)) (An (An (ci (o0 hpre)) (zr nilN)) tv)))) (Ak 1 (An (zr true) (zr true))))) (o1 hpre) (fun (x0:Nat) hx0 => ?_)
 refine swp_seq ?_
 refine zR [3,6,7,8,9] [] (Ak 1 tv) ?_
 refine swp_seq ?_
 refine zI (decide ((x0:Int) < (↑(ws.length):Int))) (fun y1 => ?_) (fun y1 => ?_)
 ·refine swp_skip ?_
  refine swp_seq ?_
  refine swp_block ?_
  refine swp_seq ?_
  refine zR [3,6,7,8,5] [] (An (An (o2 hpre x0 hx0 y1) (o3 hpre x0 hx0 y1)) (Ak 2 tv)) ?_
  refine swp_seq ?_
  refine zR [3,6,7,8,5,14] [] (Ak 3 tv) ?_
  refine zI (!decide (ws.getD x0 0=0)) (fun y2 => ?_) (fun y2 => ?_)
  ·refine swp_seq ?_
   refine zR [2] [] (Ak 2 tv) ?_
   refine swp_ret ?_
   exact zT [] (An (Ak 1 tv) (An (An (ci (o4 hpre x0 hx0 y1 y2)) (zr nilN)) (An (zr true) (An (zr true) (zr true)))))
  ·refine swp_skip ?_
   refine zR [3,6,7,8] [] (An (o5 hpre x0 hx0 y1 y2) (Ak 1 tv)) ?_
   exact zn (zE hE [] [] [3,6,7] [] (An (An (An (zr (iv 0)) (zr true)) (An (An (zr (aInts ws)) (zr true)) (An (An (zr (iv (↑(ws.length):Int))) (zr true)) (An (An (ci (o6 hpre x0 hx0 y1 y2)) (zr nilN)) tv)))) (Ak 1 (An (zr true) (zr true))))) (o7 hpre x0 hx0 y1 y2) (o8 hpre x0 hx0 y1 y2)
 ·refine swp_exit ?_
  refine swp_seq ?_
  refine zR [2] [] (Ak 2 tv) ?_
  refine swp_ret ?_
  exact zT [] (An (Ak 1 tv) (An (An (ci (o9 hpre x0 hx0 y1)) (zr nilN)) (An (zr true) (An (zr true) (zr true)))))
theorem t131 (ws:List Int):Triple Try.prog 131 (s131 ws):=by
 apply w131
 case o0=>(repeat intro _); rfl
 case o1=>exact fun _=>⟨Nat.zero_le _,fun j hj=>absurd hj (Nat.not_lt_zero _)⟩
 all_goals (intro hp x hx hl; obtain ⟨h1,h3⟩:=hx; simp only [decide_eq_true_eq,decide_eq_false_iff_not] at hl)
 case o2=>omega
 case o3=>exact hl
 case o9=>exact (orI_zero (fun j hj=>h3 j (by omega))).symm
 all_goals (intro h4)
 case o4=>exact (orI_hit (by omega) h3 (by simpa using h4)).symm
 case o5=>exact ⟨by omega,by omega⟩
 case o6=>rfl
 case o7=>exact ⟨by omega,lt_succ_cases h3 (by simpa using h4)⟩
 case o8=>omega
theorem w102 (f:Frm)
  (o0:Sound f->0<=(↑(f.pieces.length):Int))
  (o1:Sound f->(↑(f.pieces.length):Int)<=62)
  (o2:Sound f->inI (1 * 2 ^ f.pieces.length))
  (o3:Sound f->List.length (outL (refTo f 0))=0)
  (o4:Sound f->0=outN (refTo f 0))
  (o5:Sound f->false=Option.isSome (refTo f 0))
  (o6:Sound f->0=(↑0:Int))
  (o7:Sound f->0<=2 ^ List.length (Frm.pieces f))
  (o8:Sound f -> ∀ (x0:Nat),x0<=2 ^ f.pieces.length->decide ((x0:Int) < 1 * 2 ^ f.pieces.length)=true->0=penceP f (outTo (x0:Int) 0))
  (o9:Sound f -> ∀ (x0:Nat),x0<=2 ^ f.pieces.length->decide ((x0:Int) < 1 * 2 ^ f.pieces.length)=true->0=(↑0:Int))
  (o10:Sound f -> ∀ (x0:Nat),x0<=2 ^ f.pieces.length->decide ((x0:Int) < 1 * 2 ^ f.pieces.length)=true->(outTo (x0:Int) 0).length=0)
  (o11:Sound f -> ∀ (x0:Nat),x0<=2 ^ f.pieces.length->decide ((x0:Int) < 1 * 2 ^ f.pieces.length)=true->0<=f.pieces.length)
  (o12:Sound f -> ∀ (x0:Nat),x0<=2 ^ f.pieces.length->decide ((x0:Int) < 1 * 2 ^ f.pieces.length)=true -> ∀ (x2:Nat),x2<=f.pieces.length->decide ((x2:Int) < (↑(f.pieces.length):Int))=true->0<=(x2:Int))
  (o13:Sound f -> ∀ (x0:Nat),x0<=2 ^ f.pieces.length->decide ((x0:Int) < 1 * 2 ^ f.pieces.length)=true -> ∀ (x2:Nat),x2<=f.pieces.length->decide ((x2:Int) < (↑(f.pieces.length):Int))=true->(x2:Int) < (↑(f.pieces.length):Int))
  (o14:Sound f -> ∀ (x0:Nat),x0<=2 ^ f.pieces.length->decide ((x0:Int) < 1 * 2 ^ f.pieces.length)=true -> ∀ (x2:Nat),x2<=f.pieces.length->decide ((x2:Int) < (↑(f.pieces.length):Int))=true->0<=(x2:Int))
  (o15:Sound f -> ∀ (x0:Nat),x0<=2 ^ f.pieces.length->decide ((x0:Int) < 1 * 2 ^ f.pieces.length)=true -> ∀ (x2:Nat),x2<=f.pieces.length->decide ((x2:Int) < (↑(f.pieces.length):Int))=true->(x2:Int)<=62)
  (o16:Sound f -> ∀ (x0:Nat),x0<=2 ^ f.pieces.length->decide ((x0:Int) < 1 * 2 ^ f.pieces.length)=true -> ∀ (x2:Nat),x2<=f.pieces.length->decide ((x2:Int) < (↑(f.pieces.length):Int))=true->0<=(x0:Int) / 2 ^ x2)
  (o17:Sound f -> ∀ (x0:Nat),x0<=2 ^ f.pieces.length->decide ((x0:Int) < 1 * 2 ^ f.pieces.length)=true -> ∀ (x2:Nat),x2<=f.pieces.length->decide ((x2:Int) < (↑(f.pieces.length):Int))=true->inI ((x0:Int) / 2 ^ x2))
  (o18:Sound f -> ∀ (x0:Nat),x0<=2 ^ f.pieces.length->decide ((x0:Int) < 1 * 2 ^ f.pieces.length)=true -> ∀ (x2:Nat),x2<=f.pieces.length->decide ((x2:Int) < (↑(f.pieces.length):Int))=true->decide ((x0:Int) / 2 ^ x2 % 2=1)=true->(outTo (x0:Int) x2).length + 1<=65536)
  (o19:Sound f -> ∀ (x0:Nat),x0<=2 ^ f.pieces.length->decide ((x0:Int) < 1 * 2 ^ f.pieces.length)=true -> ∀ (x2:Nat),x2<=f.pieces.length->decide ((x2:Int) < (↑(f.pieces.length):Int))=true->decide ((x0:Int) / 2 ^ x2 % 2=1)=true->inI (penceP f (outTo (x0:Int) x2) + (pc f x2).pence))
  (o20:Sound f -> ∀ (x0:Nat),x0<=2 ^ f.pieces.length->decide ((x0:Int) < 1 * 2 ^ f.pieces.length)=true -> ∀ (x2:Nat),x2<=f.pieces.length->decide ((x2:Int) < (↑(f.pieces.length):Int))=true->decide ((x0:Int) / 2 ^ x2 % 2=1)=true->inI ((x2:Int) + 1))
  (o21:Sound f -> ∀ (x0:Nat),x0<=2 ^ f.pieces.length->decide ((x0:Int) < 1 * 2 ^ f.pieces.length)=true -> ∀ (x2:Nat),x2<=f.pieces.length->decide ((x2:Int) < (↑(f.pieces.length):Int))=true->decide ((x0:Int) / 2 ^ x2 % 2=1)=true->penceP f (outTo (x0:Int) x2) + (pc f x2).pence=penceP f (outTo (x0:Int) (x2 + 1)))
  (o22:Sound f -> ∀ (x0:Nat),x0<=2 ^ f.pieces.length->decide ((x0:Int) < 1 * 2 ^ f.pieces.length)=true -> ∀ (x2:Nat),x2<=f.pieces.length->decide ((x2:Int) < (↑(f.pieces.length):Int))=true->decide ((x0:Int) / 2 ^ x2 % 2=1)=true->(x2:Int) + 1=(↑(x2 + 1):Int))
  (o23:Sound f -> ∀ (x0:Nat),x0<=2 ^ f.pieces.length->decide ((x0:Int) < 1 * 2 ^ f.pieces.length)=true -> ∀ (x2:Nat),x2<=f.pieces.length->decide ((x2:Int) < (↑(f.pieces.length):Int))=true->decide ((x0:Int) / 2 ^ x2 % 2=1)=true->(outTo (x0:Int) x2).length + 1=(outTo (x0:Int) (x2 + 1)).length)
  (o24:Sound f -> ∀ (x0:Nat),x0<=2 ^ f.pieces.length->decide ((x0:Int) < 1 * 2 ^ f.pieces.length)=true -> ∀ (x2:Nat),x2<=f.pieces.length->decide ((x2:Int) < (↑(f.pieces.length):Int))=true->decide ((x0:Int) / 2 ^ x2 % 2=1)=true -> ∀ (i5:Nat),i5 < (outTo (x0:Int) x2).length + 1->catF (outTo (x0:Int) x2).length (fun (i:Nat)=>[iv ((outTo (x0:Int) x2).getD i 0)]) (fun (j:Nat)=>List.getD [[iv (x2:Int)]] j (TI.za ti3)) i5 = [iv ((outTo (x0:Int) (x2 + 1)).getD i5 0)])
  (o25:Sound f -> ∀ (x0:Nat),x0<=2 ^ f.pieces.length->decide ((x0:Int) < 1 * 2 ^ f.pieces.length)=true -> ∀ (x2:Nat),x2<=f.pieces.length->decide ((x2:Int) < (↑(f.pieces.length):Int))=true->decide ((x0:Int) / 2 ^ x2 % 2=1)=true->x2 + 1<=f.pieces.length)
  (o26:Sound f -> ∀ (x0:Nat),x0<=2 ^ f.pieces.length->decide ((x0:Int) < 1 * 2 ^ f.pieces.length)=true -> ∀ (x2:Nat),x2<=f.pieces.length->decide ((x2:Int) < (↑(f.pieces.length):Int))=true->decide ((x0:Int) / 2 ^ x2 % 2=1)=true->f.pieces.length - (x2 + 1) < f.pieces.length - x2)
  (o27:Sound f -> ∀ (x0:Nat),x0<=2 ^ f.pieces.length->decide ((x0:Int) < 1 * 2 ^ f.pieces.length)=true -> ∀ (x2:Nat),x2<=f.pieces.length->decide ((x2:Int) < (↑(f.pieces.length):Int))=true->decide ((x0:Int) / 2 ^ x2 % 2=1)=false->inI ((x2:Int) + 1))
  (o28:Sound f -> ∀ (x0:Nat),x0<=2 ^ f.pieces.length->decide ((x0:Int) < 1 * 2 ^ f.pieces.length)=true -> ∀ (x2:Nat),x2<=f.pieces.length->decide ((x2:Int) < (↑(f.pieces.length):Int))=true->decide ((x0:Int) / 2 ^ x2 % 2=1)=false->penceP f (outTo (x0:Int) x2)=penceP f (outTo (x0:Int) (x2 + 1)))
  (o29:Sound f -> ∀ (x0:Nat),x0<=2 ^ f.pieces.length->decide ((x0:Int) < 1 * 2 ^ f.pieces.length)=true -> ∀ (x2:Nat),x2<=f.pieces.length->decide ((x2:Int) < (↑(f.pieces.length):Int))=true->decide ((x0:Int) / 2 ^ x2 % 2=1)=false->(x2:Int) + 1=(↑(x2 + 1):Int))
  (o30:Sound f -> ∀ (x0:Nat),x0<=2 ^ f.pieces.length->decide ((x0:Int) < 1 * 2 ^ f.pieces.length)=true -> ∀ (x2:Nat),x2<=f.pieces.length->decide ((x2:Int) < (↑(f.pieces.length):Int))=true->decide ((x0:Int) / 2 ^ x2 % 2=1)=false->(outTo (x0:Int) x2).length=(outTo (x0:Int) (x2 + 1)).length)
  (o31:Sound f -> ∀ (x0:Nat),x0<=2 ^ f.pieces.length->decide ((x0:Int) < 1 * 2 ^ f.pieces.length)=true -> ∀ (x2:Nat),x2<=f.pieces.length->decide ((x2:Int) < (↑(f.pieces.length):Int))=true->decide ((x0:Int) / 2 ^ x2 % 2=1)=false -> ∀ (i7:Nat),i7 < (outTo (x0:Int) x2).length -> [iv ((outTo (x0:Int) x2).getD i7 0)] = [iv ((outTo (x0:Int) (x2 + 1)).getD i7 0)])
  (o32:Sound f -> ∀ (x0:Nat),x0<=2 ^ f.pieces.length->decide ((x0:Int) < 1 * 2 ^ f.pieces.length)=true -> ∀ (x2:Nat),x2<=f.pieces.length->decide ((x2:Int) < (↑(f.pieces.length):Int))=true->decide ((x0:Int) / 2 ^ x2 % 2=1)=false->x2 + 1<=f.pieces.length)
  (o33:Sound f -> ∀ (x0:Nat),x0<=2 ^ f.pieces.length->decide ((x0:Int) < 1 * 2 ^ f.pieces.length)=true -> ∀ (x2:Nat),x2<=f.pieces.length->decide ((x2:Int) < (↑(f.pieces.length):Int))=true->decide ((x0:Int) / 2 ^ x2 % 2=1)=false->f.pieces.length - (x2 + 1) < f.pieces.length - x2)
  (o34:Sound f -> ∀ (x0:Nat),x0<=2 ^ f.pieces.length->decide ((x0:Int) < 1 * 2 ^ f.pieces.length)=true -> ∀ (x2:Nat),x2<=f.pieces.length->decide ((x2:Int) < (↑(f.pieces.length):Int))=false->Option.isSome (refTo f x0)=true->inI (penceP f (outTo (x0:Int) x2) - outN (refTo f x0)))
  (o35:Sound f -> ∀ (x0:Nat),x0<=2 ^ f.pieces.length->decide ((x0:Int) < 1 * 2 ^ f.pieces.length)=true -> ∀ (x2:Nat),x2<=f.pieces.length->decide ((x2:Int) < (↑(f.pieces.length):Int))=false->Option.isSome (refTo f x0)=true->inI ((↑((outTo (x0:Int) x2).length):Int) - (↑((outL (refTo f x0)).length):Int)))
  (o36:Sound f -> ∀ (x0:Nat),x0<=2 ^ f.pieces.length->decide ((x0:Int) < 1 * 2 ^ f.pieces.length)=true -> ∀ (x2:Nat),x2<=f.pieces.length->decide ((x2:Int) < (↑(f.pieces.length):Int))=false->Option.isSome (refTo f x0)=true->(outTo (x0:Int) x2).length=(outP f (x0:Int)).length)
  (o37:Sound f -> ∀ (x0:Nat),x0<=2 ^ f.pieces.length->decide ((x0:Int) < 1 * 2 ^ f.pieces.length)=true -> ∀ (x2:Nat),x2<=f.pieces.length->decide ((x2:Int) < (↑(f.pieces.length):Int))=false->Option.isSome (refTo f x0)=true -> ∀ (i30:Nat),i30 < (outP f (x0:Int)).length -> [iv ((outTo (x0:Int) x2).getD i30 0)] = [iv ((outP f (x0:Int)).getD i30 0)])
  (o38:Sound f -> ∀ (x0:Nat),x0<=2 ^ f.pieces.length->decide ((x0:Int) < 1 * 2 ^ f.pieces.length)=true -> ∀ (x2:Nat),x2<=f.pieces.length->decide ((x2:Int) < (↑(f.pieces.length):Int))=false->Option.isSome (refTo f x0)=true->(outP f (x0:Int)).length<=65536)
  (o39:Sound f -> ∀ (x0:Nat),x0<=2 ^ f.pieces.length->decide ((x0:Int) < 1 * 2 ^ f.pieces.length)=true -> ∀ (x2:Nat),x2<=f.pieces.length->decide ((x2:Int) < (↑(f.pieces.length):Int))=false->Option.isSome (refTo f x0)=true->(outL (refTo f x0)).length<=65536)
  (o40:Sound f -> ∀ (x0:Nat),x0<=2 ^ f.pieces.length->decide ((x0:Int) < 1 * 2 ^ f.pieces.length)=true -> ∀ (x2:Nat),x2<=f.pieces.length->decide ((x2:Int) < (↑(f.pieces.length):Int))=false->Option.isSome (refTo f x0)=true->3=List.length [penceP f (outP f (x0:Int)) - outN (refTo f x0),(↑((outP f (x0:Int)).length):Int) - (↑((outL (refTo f x0)).length):Int),cmpL (outP f (x0:Int)) (outL (refTo f x0))])
  (o41:Sound f -> ∀ (x0:Nat),x0<=2 ^ f.pieces.length->decide ((x0:Int) < 1 * 2 ^ f.pieces.length)=true -> ∀ (x2:Nat),x2<=f.pieces.length->decide ((x2:Int) < (↑(f.pieces.length):Int))=false->Option.isSome (refTo f x0)=true -> ∀ (i41:Nat),i41 < List.length [penceP f (outP f (x0:Int)) - outN (refTo f x0),(↑((outP f (x0:Int)).length):Int) - (↑((outL (refTo f x0)).length):Int),cmpL (outP f (x0:Int)) (outL (refTo f x0))]->List.getD [[iv (penceP f (outTo (x0:Int) x2) - outN (refTo f x0))],[iv ((↑((outTo (x0:Int) x2).length):Int) - (↑((outL (refTo f x0)).length):Int))],[iv (cmpL (outP f (x0:Int)) (outL (refTo f x0)))]] i41 (TI.za ti3) = [iv (List.getD [penceP f (outP f (x0:Int)) - outN (refTo f x0),(↑((outP f (x0:Int)).length):Int) - (↑((outL (refTo f x0)).length):Int),cmpL (outP f (x0:Int)) (outL (refTo f x0))] i41 0)])
  (o42:Sound f -> ∀ (x0:Nat),x0<=2 ^ f.pieces.length->decide ((x0:Int) < 1 * 2 ^ f.pieces.length)=true -> ∀ (x2:Nat),x2<=f.pieces.length->decide ((x2:Int) < (↑(f.pieces.length):Int))=false->Option.isSome (refTo f x0)=true->List.length [penceP f (outP f (x0:Int)) - outN (refTo f x0),(↑((outP f (x0:Int)).length):Int) - (↑((outL (refTo f x0)).length):Int),cmpL (outP f (x0:Int)) (outL (refTo f x0))]<=65536)
  (o43:Sound f -> ∀ (x0:Nat),x0<=2 ^ f.pieces.length->decide ((x0:Int) < 1 * 2 ^ f.pieces.length)=true -> ∀ (x2:Nat),x2<=f.pieces.length->decide ((x2:Int) < (↑(f.pieces.length):Int))=false->(!bif Option.isSome (refTo f x0) then decide (0<=orI [penceP f (outP f (x0:Int)) - outN (refTo f x0),(↑((outP f (x0:Int)).length):Int) - (↑((outL (refTo f x0)).length):Int),cmpL (outP f (x0:Int)) (outL (refTo f x0))]) else false)=true->0<=(x0:Int))
  (o44:Sound f -> ∀ (x0:Nat),x0<=2 ^ f.pieces.length->decide ((x0:Int) < 1 * 2 ^ f.pieces.length)=true -> ∀ (x2:Nat),x2<=f.pieces.length->decide ((x2:Int) < (↑(f.pieces.length):Int))=false->(!bif Option.isSome (refTo f x0) then decide (0<=orI [penceP f (outP f (x0:Int)) - outN (refTo f x0),(↑((outP f (x0:Int)).length):Int) - (↑((outL (refTo f x0)).length):Int),cmpL (outP f (x0:Int)) (outL (refTo f x0))]) else false)=true->(x0:Int)<=1000)
  (o45:Sound f -> ∀ (x0:Nat),x0<=2 ^ f.pieces.length->decide ((x0:Int) < 1 * 2 ^ f.pieces.length)=true -> ∀ (x2:Nat),x2<=f.pieces.length->decide ((x2:Int) < (↑(f.pieces.length):Int))=false->(bif Option.isSome (refTo f x0) then decide (0<=orI [penceP f (outP f (x0:Int)) - outN (refTo f x0),(↑((outP f (x0:Int)).length):Int) - (↑((outL (refTo f x0)).length):Int),cmpL (outP f (x0:Int)) (outL (refTo f x0))]) else false)=false->(!bif Option.isSome (refTo f x0) then decide (0<=orI [penceP f (outP f (x0:Int)) - outN (refTo f x0),(↑((outP f (x0:Int)).length):Int) - (↑((outL (refTo f x0)).length):Int),cmpL (outP f (x0:Int)) (outL (refTo f x0))]) else false)=true)
  (o46:Sound f -> ∀ (x0:Nat),x0<=2 ^ f.pieces.length->decide ((x0:Int) < 1 * 2 ^ f.pieces.length)=true -> ∀ (x2:Nat),x2<=f.pieces.length->decide ((x2:Int) < (↑(f.pieces.length):Int))=false->(bif bif Option.isSome (refTo f x0) then decide (0<=orI [penceP f (outP f (x0:Int)) - outN (refTo f x0),(↑((outP f (x0:Int)).length):Int) - (↑((outL (refTo f x0)).length):Int),cmpL (outP f (x0:Int)) (outL (refTo f x0))]) else false then true else !Option.isSome (wholeP f (x0:Int)))=true->inI ((x0:Int) + 1))
  (o47:Sound f -> ∀ (x0:Nat),x0<=2 ^ f.pieces.length->decide ((x0:Int) < 1 * 2 ^ f.pieces.length)=true -> ∀ (x2:Nat),x2<=f.pieces.length->decide ((x2:Int) < (↑(f.pieces.length):Int))=false->(bif bif Option.isSome (refTo f x0) then decide (0<=orI [penceP f (outP f (x0:Int)) - outN (refTo f x0),(↑((outP f (x0:Int)).length):Int) - (↑((outL (refTo f x0)).length):Int),cmpL (outP f (x0:Int)) (outL (refTo f x0))]) else false then true else !Option.isSome (wholeP f (x0:Int)))=true->(outL (refTo f x0)).length=(outL (refTo f (x0 + 1))).length)
  (o48:Sound f -> ∀ (x0:Nat),x0<=2 ^ f.pieces.length->decide ((x0:Int) < 1 * 2 ^ f.pieces.length)=true -> ∀ (x2:Nat),x2<=f.pieces.length->decide ((x2:Int) < (↑(f.pieces.length):Int))=false->(bif bif Option.isSome (refTo f x0) then decide (0<=orI [penceP f (outP f (x0:Int)) - outN (refTo f x0),(↑((outP f (x0:Int)).length):Int) - (↑((outL (refTo f x0)).length):Int),cmpL (outP f (x0:Int)) (outL (refTo f x0))]) else false then true else !Option.isSome (wholeP f (x0:Int)))=true -> ∀ (i59:Nat),i59 < (outL (refTo f (x0 + 1))).length -> [iv ((outL (refTo f x0)).getD i59 0)] = [iv ((outL (refTo f (x0 + 1))).getD i59 0)])
  (o49:Sound f -> ∀ (x0:Nat),x0<=2 ^ f.pieces.length->decide ((x0:Int) < 1 * 2 ^ f.pieces.length)=true -> ∀ (x2:Nat),x2<=f.pieces.length->decide ((x2:Int) < (↑(f.pieces.length):Int))=false->(bif bif Option.isSome (refTo f x0) then decide (0<=orI [penceP f (outP f (x0:Int)) - outN (refTo f x0),(↑((outP f (x0:Int)).length):Int) - (↑((outL (refTo f x0)).length):Int),cmpL (outP f (x0:Int)) (outL (refTo f x0))]) else false then true else !Option.isSome (wholeP f (x0:Int)))=true->outN (refTo f x0)=outN (refTo f (x0 + 1)))
  (o50:Sound f -> ∀ (x0:Nat),x0<=2 ^ f.pieces.length->decide ((x0:Int) < 1 * 2 ^ f.pieces.length)=true -> ∀ (x2:Nat),x2<=f.pieces.length->decide ((x2:Int) < (↑(f.pieces.length):Int))=false->(bif bif Option.isSome (refTo f x0) then decide (0<=orI [penceP f (outP f (x0:Int)) - outN (refTo f x0),(↑((outP f (x0:Int)).length):Int) - (↑((outL (refTo f x0)).length):Int),cmpL (outP f (x0:Int)) (outL (refTo f x0))]) else false then true else !Option.isSome (wholeP f (x0:Int)))=true->Option.isSome (refTo f x0)=Option.isSome (refTo f (x0 + 1)))
  (o51:Sound f -> ∀ (x0:Nat),x0<=2 ^ f.pieces.length->decide ((x0:Int) < 1 * 2 ^ f.pieces.length)=true -> ∀ (x2:Nat),x2<=f.pieces.length->decide ((x2:Int) < (↑(f.pieces.length):Int))=false->(bif bif Option.isSome (refTo f x0) then decide (0<=orI [penceP f (outP f (x0:Int)) - outN (refTo f x0),(↑((outP f (x0:Int)).length):Int) - (↑((outL (refTo f x0)).length):Int),cmpL (outP f (x0:Int)) (outL (refTo f x0))]) else false then true else !Option.isSome (wholeP f (x0:Int)))=true->(x0:Int) + 1=(↑(x0 + 1):Int))
  (o52:Sound f -> ∀ (x0:Nat),x0<=2 ^ f.pieces.length->decide ((x0:Int) < 1 * 2 ^ f.pieces.length)=true -> ∀ (x2:Nat),x2<=f.pieces.length->decide ((x2:Int) < (↑(f.pieces.length):Int))=false->(bif bif Option.isSome (refTo f x0) then decide (0<=orI [penceP f (outP f (x0:Int)) - outN (refTo f x0),(↑((outP f (x0:Int)).length):Int) - (↑((outL (refTo f x0)).length):Int),cmpL (outP f (x0:Int)) (outL (refTo f x0))]) else false then true else !Option.isSome (wholeP f (x0:Int)))=true->x0 + 1<=2 ^ f.pieces.length)
  (o53:Sound f -> ∀ (x0:Nat),x0<=2 ^ f.pieces.length->decide ((x0:Int) < 1 * 2 ^ f.pieces.length)=true -> ∀ (x2:Nat),x2<=f.pieces.length->decide ((x2:Int) < (↑(f.pieces.length):Int))=false->(bif bif Option.isSome (refTo f x0) then decide (0<=orI [penceP f (outP f (x0:Int)) - outN (refTo f x0),(↑((outP f (x0:Int)).length):Int) - (↑((outL (refTo f x0)).length):Int),cmpL (outP f (x0:Int)) (outL (refTo f x0))]) else false then true else !Option.isSome (wholeP f (x0:Int)))=true->2 ^ f.pieces.length - (x0 + 1) < 2 ^ f.pieces.length - x0)
  (o54:Sound f -> ∀ (x0:Nat),x0<=2 ^ f.pieces.length->decide ((x0:Int) < 1 * 2 ^ f.pieces.length)=true -> ∀ (x2:Nat),x2<=f.pieces.length->decide ((x2:Int) < (↑(f.pieces.length):Int))=false->(bif bif Option.isSome (refTo f x0) then decide (0<=orI [penceP f (outP f (x0:Int)) - outN (refTo f x0),(↑((outP f (x0:Int)).length):Int) - (↑((outL (refTo f x0)).length):Int),cmpL (outP f (x0:Int)) (outL (refTo f x0))]) else false then true else !Option.isSome (wholeP f (x0:Int)))=false->inI ((x0:Int) + 1))
  (o55:Sound f -> ∀ (x0:Nat),x0<=2 ^ f.pieces.length->decide ((x0:Int) < 1 * 2 ^ f.pieces.length)=true -> ∀ (x2:Nat),x2<=f.pieces.length->decide ((x2:Int) < (↑(f.pieces.length):Int))=false->(bif bif Option.isSome (refTo f x0) then decide (0<=orI [penceP f (outP f (x0:Int)) - outN (refTo f x0),(↑((outP f (x0:Int)).length):Int) - (↑((outL (refTo f x0)).length):Int),cmpL (outP f (x0:Int)) (outL (refTo f x0))]) else false then true else !Option.isSome (wholeP f (x0:Int)))=false->(outTo (x0:Int) x2).length=(outL (refTo f (x0 + 1))).length)
  (o56:Sound f -> ∀ (x0:Nat),x0<=2 ^ f.pieces.length->decide ((x0:Int) < 1 * 2 ^ f.pieces.length)=true -> ∀ (x2:Nat),x2<=f.pieces.length->decide ((x2:Int) < (↑(f.pieces.length):Int))=false->(bif bif Option.isSome (refTo f x0) then decide (0<=orI [penceP f (outP f (x0:Int)) - outN (refTo f x0),(↑((outP f (x0:Int)).length):Int) - (↑((outL (refTo f x0)).length):Int),cmpL (outP f (x0:Int)) (outL (refTo f x0))]) else false then true else !Option.isSome (wholeP f (x0:Int)))=false -> ∀ (i61:Nat),i61 < (outL (refTo f (x0 + 1))).length -> [iv ((outTo (x0:Int) x2).getD i61 0)] = [iv ((outL (refTo f (x0 + 1))).getD i61 0)])
  (o57:Sound f -> ∀ (x0:Nat),x0<=2 ^ f.pieces.length->decide ((x0:Int) < 1 * 2 ^ f.pieces.length)=true -> ∀ (x2:Nat),x2<=f.pieces.length->decide ((x2:Int) < (↑(f.pieces.length):Int))=false->(bif bif Option.isSome (refTo f x0) then decide (0<=orI [penceP f (outP f (x0:Int)) - outN (refTo f x0),(↑((outP f (x0:Int)).length):Int) - (↑((outL (refTo f x0)).length):Int),cmpL (outP f (x0:Int)) (outL (refTo f x0))]) else false then true else !Option.isSome (wholeP f (x0:Int)))=false->penceP f (outTo (x0:Int) x2)=outN (refTo f (x0 + 1)))
  (o58:Sound f -> ∀ (x0:Nat),x0<=2 ^ f.pieces.length->decide ((x0:Int) < 1 * 2 ^ f.pieces.length)=true -> ∀ (x2:Nat),x2<=f.pieces.length->decide ((x2:Int) < (↑(f.pieces.length):Int))=false->(bif bif Option.isSome (refTo f x0) then decide (0<=orI [penceP f (outP f (x0:Int)) - outN (refTo f x0),(↑((outP f (x0:Int)).length):Int) - (↑((outL (refTo f x0)).length):Int),cmpL (outP f (x0:Int)) (outL (refTo f x0))]) else false then true else !Option.isSome (wholeP f (x0:Int)))=false->true=Option.isSome (refTo f (x0 + 1)))
  (o59:Sound f -> ∀ (x0:Nat),x0<=2 ^ f.pieces.length->decide ((x0:Int) < 1 * 2 ^ f.pieces.length)=true -> ∀ (x2:Nat),x2<=f.pieces.length->decide ((x2:Int) < (↑(f.pieces.length):Int))=false->(bif bif Option.isSome (refTo f x0) then decide (0<=orI [penceP f (outP f (x0:Int)) - outN (refTo f x0),(↑((outP f (x0:Int)).length):Int) - (↑((outL (refTo f x0)).length):Int),cmpL (outP f (x0:Int)) (outL (refTo f x0))]) else false then true else !Option.isSome (wholeP f (x0:Int)))=false->(x0:Int) + 1=(↑(x0 + 1):Int))
  (o60:Sound f -> ∀ (x0:Nat),x0<=2 ^ f.pieces.length->decide ((x0:Int) < 1 * 2 ^ f.pieces.length)=true -> ∀ (x2:Nat),x2<=f.pieces.length->decide ((x2:Int) < (↑(f.pieces.length):Int))=false->(bif bif Option.isSome (refTo f x0) then decide (0<=orI [penceP f (outP f (x0:Int)) - outN (refTo f x0),(↑((outP f (x0:Int)).length):Int) - (↑((outL (refTo f x0)).length):Int),cmpL (outP f (x0:Int)) (outL (refTo f x0))]) else false then true else !Option.isSome (wholeP f (x0:Int)))=false->x0 + 1<=2 ^ f.pieces.length)
  (o61:Sound f -> ∀ (x0:Nat),x0<=2 ^ f.pieces.length->decide ((x0:Int) < 1 * 2 ^ f.pieces.length)=true -> ∀ (x2:Nat),x2<=f.pieces.length->decide ((x2:Int) < (↑(f.pieces.length):Int))=false->(bif bif Option.isSome (refTo f x0) then decide (0<=orI [penceP f (outP f (x0:Int)) - outN (refTo f x0),(↑((outP f (x0:Int)).length):Int) - (↑((outL (refTo f x0)).length):Int),cmpL (outP f (x0:Int)) (outL (refTo f x0))]) else false then true else !Option.isSome (wholeP f (x0:Int)))=false->2 ^ f.pieces.length - (x0 + 1) < 2 ^ f.pieces.length - x0)
  (o62:Sound f -> ∀ (x0:Nat),x0<=2 ^ f.pieces.length->decide ((x0:Int) < 1 * 2 ^ f.pieces.length)=false->(outL (refTo f x0)).length=(outL (refP f)).length)
  (o63:Sound f -> ∀ (x0:Nat),x0<=2 ^ f.pieces.length->decide ((x0:Int) < 1 * 2 ^ f.pieces.length)=false -> ∀ (i63:Nat),i63 < (outL (refP f)).length -> [iv ((outL (refTo f x0)).getD i63 0)] = [iv ((outL (refP f)).getD i63 0)])
  (o64:Sound f -> ∀ (x0:Nat),x0<=2 ^ f.pieces.length->decide ((x0:Int) < 1 * 2 ^ f.pieces.length)=false->outN (refTo f x0)=outN (refP f))
  (o65:Sound f -> ∀ (x0:Nat),x0<=2 ^ f.pieces.length->decide ((x0:Int) < 1 * 2 ^ f.pieces.length)=false->Option.isSome (refTo f x0)=Option.isSome (refP f)) :
  Triple Try.prog 102 (s102 f):=by
 refine triple_of Try.func102 rfl Try.call102 T0_ok _ rfl rfl rfl rfl (Nat.le_of_ble_eq_true (by kernel_rfl)) (fun _ _ _ _ h=>h) ?_
 intro hpre C hC _ hE
 obtain ⟨P,w0,E0,av,hA,ro,df⟩:=C
 obtain ⟨rfl,rfl,rfl⟩:=hC
 refine swp_seq ?_
 refine zR [1,2,3,4] [0] (Ak 4 tv) ?_
 refine swp_seq ?_
 refine swp_seq ?_
 refine zR [1,2,3,4,14,15] [0] (Ak 4 (An (An (o0 hpre) (An (o1 hpre) (o2 hpre))) (Ak 1 tv))) ?_
 refine swp_block ?_
 refine zL (Hint.ann (h102a f) [(1,AV.ptr 0 []),(14,iv (1 * 2 ^ f.pieces.length))] [(0,OB.cells 101 (cFrm f))] 10080) (zE hE [] [(0,.same 0)] [14] [0] (An (An (An (zr (some (Src.same 0))) (zr nilP)) (An (An (zr (iv (1 * 2 ^ f.pieces.length))) (zr true)) (An (o3 hpre) (An (An (ci (o4 hpre)) (zr nilN)) (An (An (cb (o5 hpre)) (zr nilN)) (An (An (ci (o6 hpre)) (zr nilN)) tv)))))) (An (An (An (zr (OB.cells 101 (cFrm f))) (zr true)) tv) (An (zr true) (zr true))))) (o7 hpre) (fun (x0:Nat) hx0 => ?_)
 refine swp_seq ?_
 refine zR [1,14,2,3,4,15,16] [0] (Ak 1 tv) ?_
 refine swp_seq ?_
 refine zI (decide ((x0:Int) < 1 * 2 ^ f.pieces.length)) (fun y1 => ?_) (fun y1 => ?_)
 ·refine swp_skip ?_
  refine swp_seq ?_
  refine swp_block ?_
  refine swp_seq ?_
  refine zR [1,14,2,3,4,15,5] [0] (Ak 2 tv) ?_
  refine swp_seq ?_
  refine zR [1,14,2,3,4,15,5,6] [0] (Ak 1 tv) ?_
  refine swp_seq ?_
  refine zR [1,14,2,3,4,15,5,6,7] [0] (Ak 1 tv) ?_
  refine swp_seq ?_
  refine swp_seq ?_
  refine zR [1,14,2,3,4,15,5,6,7,20,21,22] [0] (Ak 5 tv) ?_
  refine swp_block ?_
  refine zL (Hint.ann (h102b f x0) [(1,AV.ptr 0 []),(14,iv (1 * 2 ^ f.pieces.length)),(2,aInts (outL (refTo f x0))),(3,iv (outN (refTo f x0))),(4,bv (Option.isSome (refTo f x0))),(15,iv (x0:Int)),(5,iv (x0:Int)),(20,AV.sl 3 f.pieces.length fun (i:Nat)=>cPiece (pc f i)),(21,iv (↑(f.pieces.length):Int))] [(0,OB.cells 101 (cFrm f))] 20160) (zE hE [] [(0,.same 0),(5000,.nil)] [14,2,3,4,15,5,20,21] [0] (An (An (An (zr (some (Src.same 0))) (zr nilP)) (An (An (zr (iv (1 * 2 ^ f.pieces.length))) (zr true)) (An (An (zr (aInts (outL (refTo f x0)))) (zr true)) (An (An (zr (iv (outN (refTo f x0)))) (zr true)) (An (An (zr (bv (Option.isSome (refTo f x0)))) (zr true)) (An (An (zr (iv (x0:Int))) (zr true)) (An (An (zr (iv (x0:Int))) (zr true)) (An (An (zr (AV.sl 3 f.pieces.length fun (i:Nat)=>cPiece (pc f i))) (zr true)) (An (An (zr (iv (↑(f.pieces.length):Int))) (zr true)) (An (zr (some Src.nil)) (An (An (ci (o8 hpre x0 hx0 y1)) (zr nilN)) (An (An (ci (o9 hpre x0 hx0 y1)) (zr nilN)) tv)))))))))))) (An (An (An (zr (OB.cells 101 (cFrm f))) (zr true)) (An (o10 hpre x0 hx0 y1) tv)) (An (zr true) (zr true))))) (o11 hpre x0 hx0 y1) (fun (x2:Nat) hx2 => ?_)
  refine swp_seq ?_
  refine zR [1,14,2,3,4,15,5,20,21,6,7,22,23] [0,5000] (Ak 1 tv) ?_
  refine swp_seq ?_
  refine zI (decide ((x2:Int) < (↑(f.pieces.length):Int))) (fun y3 => ?_) (fun y3 => ?_)
  ·refine swp_skip ?_
   refine swp_seq ?_
   refine swp_block ?_
   refine swp_seq ?_
   refine zR [1,14,2,3,4,15,5,20,21,6,7,22,9,8] [0,5000,20192] (Ak 1 (An (An (o12 hpre x0 hx0 y1 x2 hx2 y3) (o13 hpre x0 hx0 y1 x2 hx2 y3)) (Ak 4 tv))) ?_
   refine swp_seq ?_
   refine zR [1,14,2,3,4,15,5,20,21,6,7,22,9,8,31] [0,5000,20192] (Ak 2 (An (An (o14 hpre x0 hx0 y1 x2 hx2 y3) (o15 hpre x0 hx0 y1 x2 hx2 y3)) (An (An (o16 hpre x0 hx0 y1 x2 hx2 y3) (An (zr (1:Int)) (o17 hpre x0 hx0 y1 x2 hx2 y3))) (Ak 1 tv)))) ?_
   refine zI (decide ((x0:Int) / 2 ^ x2 % 2=1)) (fun y4 => ?_) (fun y4 => ?_)
   ·refine swp_seq ?_
    refine zR [1,14,2,3,4,15,5,20,21,6,7,22,9] [0,20280,20192] (Ak 3 (An (o18 hpre x0 hx0 y1 x2 hx2 y3 y4) (Ak 1 tv))) ?_
    refine zR [1,14,2,3,4,15,5,20,21,6,7,22] [0,20280] (Ak 3 (An (o19 hpre x0 hx0 y1 x2 hx2 y3 y4) (Ak 1 tv))) ?_
    refine zR [1,14,2,3,4,15,5,20,21,6,7,22] [0,20280] (An (o20 hpre x0 hx0 y1 x2 hx2 y3 y4) (Ak 1 tv)) ?_
    exact zn (zE hE [] [(0,.same 0),(5000,.same 20280)] [14,2,3,4,15,5,20,21] [0] (An (An (An (zr (some (Src.same 0))) (zr nilP)) (An (An (zr (iv (1 * 2 ^ f.pieces.length))) (zr true)) (An (An (zr (aInts (outL (refTo f x0)))) (zr true)) (An (An (zr (iv (outN (refTo f x0)))) (zr true)) (An (An (zr (bv (Option.isSome (refTo f x0)))) (zr true)) (An (An (zr (iv (x0:Int))) (zr true)) (An (An (zr (iv (x0:Int))) (zr true)) (An (An (zr (AV.sl 3 f.pieces.length fun (i:Nat)=>cPiece (pc f i))) (zr true)) (An (An (zr (iv (↑(f.pieces.length):Int))) (zr true)) (An (zr (some (Src.same 20280))) (An (An (ci (o21 hpre x0 hx0 y1 x2 hx2 y3 y4)) (zr nilN)) (An (An (ci (o22 hpre x0 hx0 y1 x2 hx2 y3 y4)) (zr nilN)) tv)))))))))))) (An (An (An (zr (OB.cells 101 (cFrm f))) (zr true)) (An (An (zr 3) (An (zr 1) (An (o23 hpre x0 hx0 y1 x2 hx2 y3 y4) (fun (i5:Nat)=>(fun (y6:i5 < (outTo (x0:Int) x2).length + 1)=>(o24 hpre x0 hx0 y1 x2 hx2 y3 y4 i5 y6)))))) tv)) (An (zr true) (zr true))))) (o25 hpre x0 hx0 y1 x2 hx2 y3 y4) (o26 hpre x0 hx0 y1 x2 hx2 y3 y4)
   ·refine swp_skip ?_
    refine zR [1,14,2,3,4,15,5,20,21,6,7,22] [0,5000] (An (o27 hpre x0 hx0 y1 x2 hx2 y3 y4) (Ak 1 tv)) ?_
    exact zn (zE hE [] [(0,.same 0),(5000,.same 5000)] [14,2,3,4,15,5,20,21] [0] (An (An (An (zr (some (Src.same 0))) (zr nilP)) (An (An (zr (iv (1 * 2 ^ f.pieces.length))) (zr true)) (An (An (zr (aInts (outL (refTo f x0)))) (zr true)) (An (An (zr (iv (outN (refTo f x0)))) (zr true)) (An (An (zr (bv (Option.isSome (refTo f x0)))) (zr true)) (An (An (zr (iv (x0:Int))) (zr true)) (An (An (zr (iv (x0:Int))) (zr true)) (An (An (zr (AV.sl 3 f.pieces.length fun (i:Nat)=>cPiece (pc f i))) (zr true)) (An (An (zr (iv (↑(f.pieces.length):Int))) (zr true)) (An (zr (some (Src.same 5000))) (An (An (ci (o28 hpre x0 hx0 y1 x2 hx2 y3 y4)) (zr nilN)) (An (An (ci (o29 hpre x0 hx0 y1 x2 hx2 y3 y4)) (zr nilN)) tv)))))))))))) (An (An (An (zr (OB.cells 101 (cFrm f))) (zr true)) (An (An (zr 3) (An (zr 1) (An (o30 hpre x0 hx0 y1 x2 hx2 y3 y4) (fun (i7:Nat)=>(fun (y8:i7 < (outTo (x0:Int) x2).length)=>(o31 hpre x0 hx0 y1 x2 hx2 y3 y4 i7 y8)))))) tv)) (An (zr true) (zr true))))) (o32 hpre x0 hx0 y1 x2 hx2 y3 y4) (o33 hpre x0 hx0 y1 x2 hx2 y3 y4)
  ·refine swp_exit ?_
   refine swp_seq ?_
   refine swp_seq ?_
   refine swp_ent (zE (st2:=ASt.mk [(1,AV.ptr 0 []),(14,iv (1 * 2 ^ f.pieces.length)),(2,aInts (outL (refTo f x0))),(3,iv (outN (refTo f x0))),(4,bv (Option.isSome (refTo f x0))),(15,iv (x0:Int)),(5,iv (x0:Int)),(20,AV.sl 3 f.pieces.length fun (i:Nat)=>cPiece (pc f i)),(21,iv (↑(f.pieces.length):Int)),(6,AV.sl 1 (outTo (x0:Int) x2).length fun (i:Nat)=>[iv ((outTo (x0:Int) x2).getD i 0)]),(7,iv (penceP f (outTo (x0:Int) x2))),(22,iv (x2:Int)),(23,bv (decide ((x2:Int) < (↑(f.pieces.length):Int))))] [(0,OB.cells 101 (cFrm f))] 20168) hE [5000] [(0,.same 0)] [14,2,3,4,15,5,20,21,7,22,23] [0] (An (An (An (zr (some (Src.same 0))) (zr nilP)) (An (An (zr (iv (1 * 2 ^ f.pieces.length))) (zr true)) (An (An (zr (aInts (outL (refTo f x0)))) (zr true)) (An (An (zr (iv (outN (refTo f x0)))) (zr true)) (An (An (zr (bv (Option.isSome (refTo f x0)))) (zr true)) (An (An (zr (iv (x0:Int))) (zr true)) (An (An (zr (iv (x0:Int))) (zr true)) (An (An (zr (AV.sl 3 f.pieces.length fun (i:Nat)=>cPiece (pc f i))) (zr true)) (An (An (zr (iv (↑(f.pieces.length):Int))) (zr true)) (An (An (zr 1) (An (zr (outTo (x0:Int) x2).length) (fun (i9:Nat)=>(fun (y10:i9 < (outTo (x0:Int) x2).length)=>(zr ([iv ((outTo (x0:Int) x2).getD i9 0)])))))) (An (An (zr (iv (penceP f (outTo (x0:Int) x2)))) (zr true)) (An (An (zr (iv (x2:Int))) (zr true)) (An (An (zr (bv (decide ((x2:Int) < (↑(f.pieces.length):Int))))) (zr true)) tv))))))))))))) (An (An (An (zr (OB.cells 101 (cFrm f))) (zr true)) tv) (An (zr true) (zr true))))) ?_
   refine zC ([(12,CallSpec.eq (c102c f x0) [false,false]),(14,CallSpec.eq (c102o f x0) [false]),(20,CallSpec.eq (s90 f (x0:Int)) [true,true])]) [1,14,2,3,4,15,6,7,63] [0] (Ak 2 (An (fun (y11:Option.isSome (refTo f x0)=true)=>(An (Ak 1 tv) tv)) (An (fun (y12:Option.isSome (refTo f x0)=true)=>(An (Ak 1 tv) tv)) (An (fun (y13:Option.isSome (refTo f x0)=true)=>(An (An (fun (y14:Option.isSome (refTo f x0)=true)=>y13) (An (fun (y15:Option.isSome (refTo f x0)=true)=>y13) tv)) (o34 hpre x0 hx0 y1 x2 hx2 y3 y13))) (An (fun (y16:Option.isSome (refTo f x0)=true)=>(An (Ak 1 tv) tv)) (An (fun (y17:Option.isSome (refTo f x0)=true)=>(An (An (fun (y18:Option.isSome (refTo f x0)=true)=>y17) tv) tv)) (An (fun (y19:Option.isSome (refTo f x0)=true)=>(An (Ak 1 tv) tv)) (An (fun (y20:Option.isSome (refTo f x0)=true)=>(An (An (fun (y21:Option.isSome (refTo f x0)=true)=>y20) tv) tv)) (An (fun (y22:Option.isSome (refTo f x0)=true)=>(An (An (fun (y23:Option.isSome (refTo f x0)=true)=>y22) (An (fun (y24:Option.isSome (refTo f x0)=true)=>y22) tv)) (o35 hpre x0 hx0 y1 x2 hx2 y3 y22))) (An (fun (y25:Option.isSome (refTo f x0)=true)=>(An (Ak 1 tv) tv)) (An (fun (y26:Option.isSome (refTo f x0)=true)=>(An (Ak 1 tv) tv)) (An (fun (y27:Option.isSome (refTo f x0)=true)=>(An (Ak 1 (An (fun (y28:Option.isSome (refTo f x0)=true)=>y27) (An (fun (y29:Option.isSome (refTo f x0)=true)=>y27) tv))) (An (An (An (zr 1) (An (o36 hpre x0 hx0 y1 x2 hx2 y3 y27) (fun (i30:Nat)=>(fun (y31:i30 < (outP f (x0:Int)).length)=>(o37 hpre x0 hx0 y1 x2 hx2 y3 y27 i30 y31))))) (An (An (zr 1) (An (zr (outL (refTo f x0)).length) (fun (i32:Nat)=>(fun (y33:i32 < (outL (refTo f x0)).length)=>(zr ([iv ((outL (refTo f x0)).getD i32 0)])))))) tv)) (An (t132 (outP f (x0:Int)) (outL (refTo f x0))) (An (An (o38 hpre x0 hx0 y1 x2 hx2 y3 y27) (o39 hpre x0 hx0 y1 x2 hx2 y3 y27)) (Ak 1 (fun (i34:Env)=>tv))))))) (An (fun (y35:Option.isSome (refTo f x0)=true)=>(An (An (fun (y36:Option.isSome (refTo f x0)=true)=>y35) (An (fun (y37:Option.isSome (refTo f x0)=true)=>y35) (An (fun (y38:Option.isSome (refTo f x0)=true)=>y35) tv))) tv)) (An (fun (y39:Option.isSome (refTo f x0)=true)=>(An (Ak 1 (An (fun (y40:Option.isSome (refTo f x0)=true)=>y39) tv)) (An (An (An (zr 1) (An (o40 hpre x0 hx0 y1 x2 hx2 y3 y39) (fun (i41:Nat)=>(fun (y42:i41 < List.length [penceP f (outP f (x0:Int)) - outN (refTo f x0),(↑((outP f (x0:Int)).length):Int) - (↑((outL (refTo f x0)).length):Int),cmpL (outP f (x0:Int)) (outL (refTo f x0))])=>(o41 hpre x0 hx0 y1 x2 hx2 y3 y39 i41 y42))))) tv) (An (t131 ([penceP f (outP f (x0:Int)) - outN (refTo f x0),(↑((outP f (x0:Int)).length):Int) - (↑((outL (refTo f x0)).length):Int),cmpL (outP f (x0:Int)) (outL (refTo f x0))])) (An (o42 hpre x0 hx0 y1 x2 hx2 y3 y39) (Ak 1 (fun (i43:Env)=>tv))))))) (An (fun (y44:Option.isSome (refTo f x0)=true)=>(An (An (fun (y45:Option.isSome (refTo f x0)=true)=>y44) (Ak 1 tv)) tv)) (An (An (fun (y46:Option.isSome (refTo f x0)=true)=>y46) (fun (y47:Option.isSome (refTo f x0)=false)=>tv)) (Ak 1 (An (fun (y48:(!bif Option.isSome (refTo f x0) then decide (0<=orI [penceP f (outP f (x0:Int)) - outN (refTo f x0),(↑((outP f (x0:Int)).length):Int) - (↑((outL (refTo f x0)).length):Int),cmpL (outP f (x0:Int)) (outL (refTo f x0))]) else false)=true)=>(An (Ak 1 tv) tv)) (An (fun (y49:(!bif Option.isSome (refTo f x0) then decide (0<=orI [penceP f (outP f (x0:Int)) - outN (refTo f x0),(↑((outP f (x0:Int)).length):Int) - (↑((outL (refTo f x0)).length):Int),cmpL (outP f (x0:Int)) (outL (refTo f x0))]) else false)=true)=>(An (Ak 1 tv) tv)) (An (fun (y50:(!bif Option.isSome (refTo f x0) then decide (0<=orI [penceP f (outP f (x0:Int)) - outN (refTo f x0),(↑((outP f (x0:Int)).length):Int) - (↑((outL (refTo f x0)).length):Int),cmpL (outP f (x0:Int)) (outL (refTo f x0))]) else false)=true)=>(An (Ak 1 (An (fun (y51:(!bif Option.isSome (refTo f x0) then decide (0<=orI [penceP f (outP f (x0:Int)) - outN (refTo f x0),(↑((outP f (x0:Int)).length):Int) - (↑((outL (refTo f x0)).length):Int),cmpL (outP f (x0:Int)) (outL (refTo f x0))]) else false)=true)=>y50) (An (fun (y52:(!bif Option.isSome (refTo f x0) then decide (0<=orI [penceP f (outP f (x0:Int)) - outN (refTo f x0),(↑((outP f (x0:Int)).length):Int) - (↑((outL (refTo f x0)).length):Int),cmpL (outP f (x0:Int)) (outL (refTo f x0))]) else false)=true)=>y50) tv))) (An (An (zr (AV.agg (cFrm f))) (An (zr (iv (x0:Int))) tv)) (An (t90 (f) ((x0:Int))) (An (An hpre (An (o43 hpre x0 hx0 y1 x2 hx2 y3 y50) (o44 hpre x0 hx0 y1 x2 hx2 y3 y50))) (Ak 1 (fun (i53:Env)=>tv))))))) (An (fun (y54:(!bif Option.isSome (refTo f x0) then decide (0<=orI [penceP f (outP f (x0:Int)) - outN (refTo f x0),(↑((outP f (x0:Int)).length):Int) - (↑((outL (refTo f x0)).length):Int),cmpL (outP f (x0:Int)) (outL (refTo f x0))]) else false)=true)=>(An (An (fun (y55:(!bif Option.isSome (refTo f x0) then decide (0<=orI [penceP f (outP f (x0:Int)) - outN (refTo f x0),(↑((outP f (x0:Int)).length):Int) - (↑((outL (refTo f x0)).length):Int),cmpL (outP f (x0:Int)) (outL (refTo f x0))]) else false)=true)=>y54) (Ak 1 tv)) tv)) (An (An (fun (y56:(bif Option.isSome (refTo f x0) then decide (0<=orI [penceP f (outP f (x0:Int)) - outN (refTo f x0),(↑((outP f (x0:Int)).length):Int) - (↑((outL (refTo f x0)).length):Int),cmpL (outP f (x0:Int)) (outL (refTo f x0))]) else false)=true)=>tv) (fun (y57:(bif Option.isSome (refTo f x0) then decide (0<=orI [penceP f (outP f (x0:Int)) - outN (refTo f x0),(↑((outP f (x0:Int)).length):Int) - (↑((outL (refTo f x0)).length):Int),cmpL (outP f (x0:Int)) (outL (refTo f x0))]) else false)=false)=>(o45 hpre x0 hx0 y1 x2 hx2 y3 y57))) tv)))))))))))))))))))))) ?_
   refine zI (bif bif Option.isSome (refTo f x0) then decide (0<=orI [penceP f (outP f (x0:Int)) - outN (refTo f x0),(↑((outP f (x0:Int)).length):Int) - (↑((outL (refTo f x0)).length):Int),cmpL (outP f (x0:Int)) (outL (refTo f x0))]) else false then true else !Option.isSome (wholeP f (x0:Int))) (fun y58 => ?_) (fun y58 => ?_)
   ·refine swp_exit ?_
    refine zR [1,14,2,3,4,15] [0] (An (o46 hpre x0 hx0 y1 x2 hx2 y3 y58) (Ak 1 tv)) ?_
    exact zn (zE hE [] [(0,.same 0)] [14] [0] (An (An (An (zr (some (Src.same 0))) (zr nilP)) (An (An (zr (iv (1 * 2 ^ f.pieces.length))) (zr true)) (An (An (zr 1) (An (o47 hpre x0 hx0 y1 x2 hx2 y3 y58) (fun (i59:Nat)=>(fun (y60:i59 < (outL (refTo f (x0 + 1))).length)=>(o48 hpre x0 hx0 y1 x2 hx2 y3 y58 i59 y60))))) (An (An (ci (o49 hpre x0 hx0 y1 x2 hx2 y3 y58)) (zr nilN)) (An (An (cb (o50 hpre x0 hx0 y1 x2 hx2 y3 y58)) (zr nilN)) (An (An (ci (o51 hpre x0 hx0 y1 x2 hx2 y3 y58)) (zr nilN)) tv)))))) (An (An (An (zr (OB.cells 101 (cFrm f))) (zr true)) tv) (An (zr true) (zr true))))) (o52 hpre x0 hx0 y1 x2 hx2 y3 y58) (o53 hpre x0 hx0 y1 x2 hx2 y3 y58)
   ·refine swp_skip ?_
    refine zR [1,14,2,3,4,15] [0] (Ak 5 tv) ?_
    refine zR [1,14,2,3,4,15] [0] (An (o54 hpre x0 hx0 y1 x2 hx2 y3 y58) (Ak 1 tv)) ?_
    exact zn (zE hE [] [(0,.same 0)] [14] [0] (An (An (An (zr (some (Src.same 0))) (zr nilP)) (An (An (zr (iv (1 * 2 ^ f.pieces.length))) (zr true)) (An (An (zr 1) (An (o55 hpre x0 hx0 y1 x2 hx2 y3 y58) (fun (i61:Nat)=>(fun (y62:i61 < (outL (refTo f (x0 + 1))).length)=>(o56 hpre x0 hx0 y1 x2 hx2 y3 y58 i61 y62))))) (An (An (ci (o57 hpre x0 hx0 y1 x2 hx2 y3 y58)) (zr nilN)) (An (An (cb (o58 hpre x0 hx0 y1 x2 hx2 y3 y58)) (zr nilN)) (An (An (ci (o59 hpre x0 hx0 y1 x2 hx2 y3 y58)) (zr nilN)) tv)))))) (An (An (An (zr (OB.cells 101 (cFrm f))) (zr true)) tv) (An (zr true) (zr true))))) (o60 hpre x0 hx0 y1 x2 hx2 y3 y58) (o61 hpre x0 hx0 y1 x2 hx2 y3 y58)
 ·refine swp_exit ?_
  refine swp_seq ?_
  refine zR [2,3,4] [] (Ak 6 tv) ?_
  refine swp_ret ?_
  exact zT [] (An (Ak 3 tv) (An (An (An (zr 1) (An (o62 hpre x0 hx0 y1) (fun (i63:Nat)=>(fun (y64:i63 < (outL (refP f)).length)=>(o63 hpre x0 hx0 y1 i63 y64))))) (An (An (ci (o64 hpre x0 hx0 y1)) (zr nilN)) (An (An (cb (o65 hpre x0 hx0 y1)) (zr nilN)) tv))) (An (zr true) (An (zr true) (zr true)))))
theorem t102 (f:Frm):Triple Try.prog 102 (s102 f):=by
 apply w102
 all_goals (first | ((repeat intro _) <;> (try simp only [Bool.cond_true_left,Bool.cond_false_right,Bool.not_not,Bool.not_eq_true',Bool.not_eq_false',Bool.or_eq_true,Bool.or_eq_false_iff,Bool.and_eq_true,decide_eq_true_eq,decide_eq_false_iff_not,inI,big,fitsF,smallF,goodL] at *) <;> first | (exact rfl) | omega | (exact ⟨Nat.zero_le _,fun j hj=>absurd hj (Nat.not_lt_zero j)⟩) | (simp_all; done) | (simp_all; omega)) | skip)
 all_goals (intro hs; have h6:=pow6 hs; have hpl:=hs.pieces)
 case o1=>omega
 case o2=>rw [pow_cast]; have h0:=Int.natCast_nonneg (2 ^ f.pieces.length); exact ⟨by omega,by omega⟩
 all_goals (intro n hn hl; rw [pow_cast] at hl; simp only [decide_eq_true_eq,decide_eq_false_iff_not] at hl)
 case o62 | o63 | o64 | o65 =>
  have e:n=2 ^ f.pieces.length:=by omega
  subst e
  first | rfl | (intro i _; rfl)
 all_goals (have hrn:=refN_in hs n)
 all_goals (intro k hk hkl; simp only [decide_eq_true_eq,decide_eq_false_iff_not] at hkl)
 all_goals (have hol:=out_len (n:Int) k; have hpi:=pence_in hs (n:Int) k hk)
 case o15=>omega
 case o16=>exact Int.ediv_nonneg (by omega) (Int.le_of_lt (Int.pow_pos (by omega)))
 case o17=>exact inI_div2 (by omega) (by omega)
 all_goals (intro hb)
 case o18=>omega
 case o19=>have:=hs.piece k (by omega); exact ⟨by omega,by omega⟩
 case o20 | o27=>exact ⟨by omega,by omega⟩
 case o21=>have hb':bitP (n:Int) (k:Int)=true:=hb; rw [out_t hb',pence_snoc]
 case o23=>have hb':bitP (n:Int) (k:Int)=true:=hb; rw [out_t hb',List.length_append]; rfl
 case o24 =>
  have hb':bitP (n:Int) (k:Int)=true:=hb
  intro i hi
  rw [out_t hb']
  exact catF_one (outTo (n:Int) k) _ 0 (fun x=>[iv x]) rfl (fun k _=>rfl) rfl hi
 case o28 | o30=>have hb':bitP (n:Int) (k:Int)=false:=hb; rw [out_f hb']
 case o31=>have hb':bitP (n:Int) (k:Int)=false:=hb; intro i _; rw [out_f hb']
 all_goals (have ek:k=f.pieces.length:=by omega)
 all_goals subst ek
 case o34=>exact ⟨by omega,by omega⟩
 case o35=>exact ⟨by omega,by omega⟩
 case o36=>rfl
 case o37=>intro i _; rfl
 case o38=>show (outTo _ _).length<=_; omega
 case o39=>omega
 case o41 =>
  intro i hi
  match i,hi with
  | 0,_=>rfl
  | 1,_=>rfl
  | 2,_=>rfl
  | i + 3,hi=>exact absurd hi (by simp)
 case o44=>(repeat intro _); omega
 case o46 | o54=>exact ⟨by omega,by omega⟩
 case o52 | o60 | o53 | o61=>omega
 case o47 | o49 | o50=>rw [ref_old hb]
 case o48=>intro i _; rw [ref_old hb]
 case o55 | o57 | o58=>rw [ref_new hb]; rfl
 case o56=>intro i _; rw [ref_new hb]; rfl
theorem w42 (f:Frm)
  (o0:smallF f->(!decide (openF f true=0))=true->(refuseL f).length=0)
  (o1:smallF f->(!decide (openF f true=0))=true->openF f true=refuseE f)
  (o2:smallF f->(!decide (openF f true=0))=false->Sound (openFr f true))
  (o3:smallF f->(!decide (openF f true=0))=false->(!Option.isSome (refP (openFr f true)))=true->(refuseL f).length=0)
  (o4:smallF f->(!decide (openF f true=0))=false->(!Option.isSome (refP (openFr f true)))=true->3=refuseE f)
  (o5:smallF f->(!decide (openF f true=0))=false->(!Option.isSome (refP (openFr f true)))=false->(outL (refP (openFr f true))).length=(refuseL f).length)
  (o6:smallF f->(!decide (openF f true=0))=false->(!Option.isSome (refP (openFr f true)))=false -> ∀ (i4:Nat),i4 < (refuseL f).length -> [iv ((outL (refP (openFr f true))).getD i4 0)] = [iv ((refuseL f).getD i4 0)])
  (o7:smallF f->(!decide (openF f true=0))=false->(!Option.isSome (refP (openFr f true)))=false->0=refuseE f) :
  Triple Try.prog 42 (s42 f):=by
 refine triple_of Try.func42 rfl Try.call42 T0_ok _ rfl rfl rfl rfl (Nat.le_of_ble_eq_true (by kernel_rfl)) (fun _ _ _ _ h=>h) ?_
 intro hpre C hC _ hE
 obtain ⟨P,w0,E0,av,hA,ro,df⟩:=C
 obtain ⟨rfl,rfl,rfl⟩:=hC
 refine swp_seq ?_
 refine zR [1] [0] (Ak 3 tv) ?_
 refine swp_seq ?_
 refine zC ([(1,CallSpec.eq (s83 f true) [true,true])]) [4,5] [64] (Ak 1 (An (An (An (zr (AV.agg (cFrm f))) (An (zr (bv true)) tv)) (An (t83 (f) (true)) (An hpre (Ak 1 (fun (i0:Env)=>tv))))) (Ak 6 tv))) ?_
 refine swp_seq ?_
 refine swp_seq ?_
 refine zR [4,5,15] [64] (Ak 2 tv) ?_
 refine zI (!decide (openF f true=0)) (fun y1 => ?_) (fun y1 => ?_)
 ·refine swp_seq ?_
  refine zR [2,3] [] (Ak 3 tv) ?_
  refine swp_ret ?_
  exact zT [] (An (Ak 2 tv) (An (An (o0 hpre y1) (An (An (ci (o1 hpre y1)) (zr nilN)) tv)) (An (zr true) (An (zr true) (zr true)))))
 ·refine swp_skip ?_
  refine swp_seq ?_
  refine zC ([(1,CallSpec.eq (s102 (openFr f true)) [true])]) [6,8] [] (Ak 1 (An (An (An (zr (AV.agg (cFrm (openFr f true)))) tv) (An (t102 (openFr f true)) (An (o2 hpre y1) (Ak 1 (fun (i2:Env)=>tv))))) (Ak 7 tv))) ?_
  refine swp_seq ?_
  refine swp_seq ?_
  refine zR [6,24] [] (Ak 2 tv) ?_
  refine zI (!Option.isSome (refP (openFr f true))) (fun y3 => ?_) (fun y3 => ?_)
  ·refine swp_seq ?_
   refine zR [2,3] [] (Ak 2 tv) ?_
   refine swp_ret ?_
   exact zT [] (An (Ak 2 tv) (An (An (o3 hpre y1 y3) (An (An (ci (o4 hpre y1 y3)) (zr nilN)) tv)) (An (zr true) (An (zr true) (zr true)))))
  ·refine swp_skip ?_
   refine swp_seq ?_
   refine zR [2,3] [] (Ak 3 tv) ?_
   refine swp_ret ?_
   exact zT [] (An (Ak 2 tv) (An (An (An (zr 1) (An (o5 hpre y1 y3) (fun (i4:Nat)=>(fun (y5:i4 < (refuseL f).length)=>(o6 hpre y1 y3 i4 y5))))) (An (An (ci (o7 hpre y1 y3)) (zr nilN)) tv)) (An (zr true) (An (zr true) (zr true)))))
theorem t42 (f:Frm):Triple Try.prog 42 (s42 f):=by
 apply w42
 all_goals (first | ((repeat intro _) <;> (try simp only [Bool.cond_true_left,Bool.cond_false_right,Bool.not_not,Bool.not_eq_true',Bool.not_eq_false',Bool.or_eq_true,Bool.or_eq_false_iff,Bool.and_eq_true,decide_eq_true_eq,decide_eq_false_iff_not,inI,big,fitsF,smallF,goodL] at *) <;> first | (exact rfl) | omega | (exact ⟨Nat.zero_le _,fun j hj=>absurd hj (Nat.not_lt_zero j)⟩) | (simp_all; done) | (simp_all; omega)) | skip)
 all_goals (intro hp h)
 case o0 | o1=>have e:=gate_bad h; rw [Bool.and_true] at e; simp [refuseL,refuseE,openF,e]
 all_goals (obtain ⟨e1,_,e2,e3,e4⟩:=gate_ok h)
 case o2=>rw [e2]; exact e3
 all_goals (intro h2; rw [e2] at h2)
 case o3 | o4=>have:=out_none h2; simp [refuseL,refuseE,e1,this,outL]
 case o5=>rw [e2]; simp [refuseL,e1]
 case o6=>intro i _; rw [e2]; simp [refuseL,e1]
 case o7=>simp [refuseE,e1,out_some h2]
theorem w44 (f:Frm)
  (o0:smallF f->(!decide (openF f true=0))=true->0=lostN f)
  (o1:smallF f->(!decide (openF f true=0))=true->openF f true=refuseE f)
  (o2:smallF f->(!decide (openF f true=0))=false->Sound (openFr f true))
  (o3:smallF f->(!decide (openF f true=0))=false->(!Option.isSome (refP (openFr f true)))=true->0=lostN f)
  (o4:smallF f->(!decide (openF f true=0))=false->(!Option.isSome (refP (openFr f true)))=true->3=refuseE f)
  (o5:smallF f->(!decide (openF f true=0))=false->(!Option.isSome (refP (openFr f true)))=false->outN (refP (openFr f true))=lostN f)
  (o6:smallF f->(!decide (openF f true=0))=false->(!Option.isSome (refP (openFr f true)))=false->0=refuseE f) :
  Triple Try.prog 44 (s44 f):=by
 refine triple_of Try.func44 rfl Try.call44 T0_ok _ rfl rfl rfl rfl (Nat.le_of_ble_eq_true (by kernel_rfl)) (fun _ _ _ _ h=>h) ?_
 intro hpre C hC _ hE
 obtain ⟨P,w0,E0,av,hA,ro,df⟩:=C
 obtain ⟨rfl,rfl,rfl⟩:=hC
 refine swp_seq ?_
 refine zR [1] [0] (Ak 3 tv) ?_
 refine swp_seq ?_
 refine zC ([(1,CallSpec.eq (s83 f true) [true,true])]) [4,5] [64] (Ak 1 (An (An (An (zr (AV.agg (cFrm f))) (An (zr (bv true)) tv)) (An (t83 (f) (true)) (An hpre (Ak 1 (fun (i0:Env)=>tv))))) (Ak 6 tv))) ?_
 refine swp_seq ?_
 refine swp_seq ?_
 refine zR [4,5,15] [64] (Ak 2 tv) ?_
 refine zI (!decide (openF f true=0)) (fun y1 => ?_) (fun y1 => ?_)
 ·refine swp_seq ?_
  refine zR [2,3] [] (Ak 3 tv) ?_
  refine swp_ret ?_
  exact zT [] (An (Ak 2 tv) (An (An (An (ci (o0 hpre y1)) (zr nilN)) (An (An (ci (o1 hpre y1)) (zr nilN)) tv)) (An (zr true) (An (zr true) (zr true)))))
 ·refine swp_skip ?_
  refine swp_seq ?_
  refine zC ([(1,CallSpec.eq (s102 (openFr f true)) [true])]) [7,8] [] (Ak 1 (An (An (An (zr (AV.agg (cFrm (openFr f true)))) tv) (An (t102 (openFr f true)) (An (o2 hpre y1) (Ak 1 (fun (i2:Env)=>tv))))) (Ak 7 tv))) ?_
  refine swp_seq ?_
  refine swp_seq ?_
  refine zR [7,24] [] (Ak 2 tv) ?_
  refine zI (!Option.isSome (refP (openFr f true))) (fun y3 => ?_) (fun y3 => ?_)
  ·refine swp_seq ?_
   refine zR [2,3] [] (Ak 2 tv) ?_
   refine swp_ret ?_
   exact zT [] (An (Ak 2 tv) (An (An (An (ci (o3 hpre y1 y3)) (zr nilN)) (An (An (ci (o4 hpre y1 y3)) (zr nilN)) tv)) (An (zr true) (An (zr true) (zr true)))))
  ·refine swp_skip ?_
   refine swp_seq ?_
   refine zR [2,3] [] (Ak 3 tv) ?_
   refine swp_ret ?_
   exact zT [] (An (Ak 2 tv) (An (An (An (ci (o5 hpre y1 y3)) (zr nilN)) (An (An (ci (o6 hpre y1 y3)) (zr nilN)) tv)) (An (zr true) (An (zr true) (zr true)))))
theorem t44 (f:Frm):Triple Try.prog 44 (s44 f):=by
 apply w44
 all_goals (first | ((repeat intro _) <;> (try simp only [Bool.cond_true_left,Bool.cond_false_right,Bool.not_not,Bool.not_eq_true',Bool.not_eq_false',Bool.or_eq_true,Bool.or_eq_false_iff,Bool.and_eq_true,decide_eq_true_eq,decide_eq_false_iff_not,inI,big,fitsF,smallF,goodL] at *) <;> first | (exact rfl) | omega | (exact ⟨Nat.zero_le _,fun j hj=>absurd hj (Nat.not_lt_zero j)⟩) | (simp_all; done) | (simp_all; omega)) | skip)
 all_goals (intro hp h)
 case o0 | o1=>have e:=gate_bad h; rw [Bool.and_true] at e; simp [lostN,refuseE,openF,e]
 all_goals (obtain ⟨e1,_,e2,e3,e4⟩:=gate_ok h)
 case o2=>rw [e2]; exact e3
 all_goals (intro h2; rw [e2] at h2)
 case o3 | o4=>have:=out_none h2; simp [lostN,refuseE,e1,this,outN]
 case o5=>rw [e2]; simp [lostN,e1]
 case o6=>simp [refuseE,e1,out_some h2]
end Go.Ab
namespace Go.En
open Go Go.Ab Go.Sh
def aPieces (ps:List Piece):AV := .sl 3 ps.length (fun i=>cPiece (ps.getD i default))
end Go.En
namespace Go.Ab
open Go Go.RowKit Go.Proofs Go.Sh Go.En
abbrev rowP (ps:List Piece):OB := .vec 46 3 ps.length (fun i=>cPiece (ps.getD i default))
def ou89 (ps:List Piece):OutSpec:={ args:=[aPieces ps],pre:=0 < ps.length/\ps.length<=60000,res := .vec 0,hout:=[(0,rowP ps)] }
def s89o (ps:List Piece) (id:Nat):CallSpec:={ args:=[aPieces ps],pre:=0 < ps.length/\ps.length<=60000,res := .vec id,hout:=[(id,rowP ps)] }
end Go.Ab
namespace Go.Ab
open Go Go.RowKit Go.Proofs Go.Sh Go.En
theorem wo89 (ps:List Piece)
  (o0:0 < ps.length/\ps.length<=60000->0 + ps.length<=65536)
  (o1:0 < ps.length/\ps.length<=60000->0 + ps.length=ps.length)
  (l:List (Nat × Nat)) (hl:l.map (·.1)=(OutSpec.hout (ou89 ps)).map (·.1)) (hnd:(l.map (·.2)).Nodup) :
  Triple Try.prog 89 (OutSpec.at (ou89 ps) l):=by
 refine triple_out Try.func89 rfl Try.call89 T0_ok _ _ _ _ l rfl (Nat.le_of_ble_eq_true (by kernel_rfl)) hl hnd (by kernel_rfl) (by kernel_rfl) (by kernel_rfl) ?_
 intro hpre C hC hE
 obtain ⟨P,w0,E0,av,hA,ro,df⟩:=C
 obtain ⟨rfl,rfl,rfl⟩:=hC
 refine swp_seq ?_
 refine zR [0] [] (Ak 1 tv) ?_
 refine swp_seq ?_
 refine swp_seq ?_
 refine zR [0,4] [] (Ak 1 (An hpre.1 tv)) ?_
 refine zf ?_
 refine swp_skip ?_
 refine swp_seq ?_
 refine zR [2] [40] (Ak 2 (An (o0 hpre) (Ak 1 tv))) ?_
 refine swp_ret ?_
 exact zO (ASt.mk [(2,AV.vec 0)] [(0,OB.vec 46 3 ps.length fun (i:Nat)=>cPiece (ps.getD i default))] 100) (zE hE [] [(0,.same 40)] [] [] (An (An (zr (some (Src.same 40))) tv) (An (An (An (zr 46) (An (zr 3) (An (o1 hpre) (fun (i0:Nat)=>(fun (y1:i0 < 0 + ps.length)=>(zr (cPiece (ps.getD i0 default)))))))) tv) (An (zr true) (zr true))))) (An (Ak 1 tv) (An (zr (AV.vec 0)) (An (zr (some (OB.vec 46 3 ps.length fun (i:Nat)=>cPiece (ps.getD i default)))) tv)))
theorem t89o (ps:List Piece) (id:Nat):Triple Try.prog 89 (s89o ps id):=by
 apply wo89 ps (l:=[(0,id)]) (hl:=rfl) (hnd:=by simp)
 all_goals (first | ((repeat intro _) <;> (try simp only [Bool.cond_true_left,Bool.cond_false_right,Bool.not_not,Bool.not_eq_true',Bool.not_eq_false',Bool.or_eq_true,Bool.or_eq_false_iff,Bool.and_eq_true,decide_eq_true_eq,decide_eq_false_iff_not,inI,big] at *) <;> first | (exact rfl) | omega | (exact ⟨Nat.zero_le _,fun j hj=>absurd hj (Nat.not_lt_zero j)⟩) | (simp_all; done) | (simp_all; omega)) | skip)
end Go.Ab
namespace Go.Sh
open Go.Ab
def grownF (f:Frm) (p:Nat) (n:Int):Frm:={ f with pieces:=f.pieces.set p { pc f p with hi:=n } }
def growK (f:Frm) (p:Nat):Option Nat:=(List.range (100 - (pc f p).lo.toNat)).find? fun k=>(wholeP (grownF f p (99 - k)) 0).isSome
def growG (f:Frm) (p:Int):Bool:=okFrm f && isPc f p
def growN (f:Frm) (p:Int):Int:=if growG f p then (match growK f p.toNat with | some k=>99 - k | none=>0) else 0
def growE (f:Frm) (p:Int):Int:=if growG f p then (if (growK f p.toNat).isSome then 0 else 3) else openF f (isPc f p)
end Go.Sh
namespace Go.Ab
open Go Go.RowKit Go.Proofs Go.Sh Go.En
def s90w (f:Frm) (w:Int):CallSpec:={ s90 f w with res := .opt (wholeP f w).isSome [] }
theorem t90w (f:Frm) (w:Int):Triple Try.prog 90 (s90w f w):=triple_optW (t90 f w) rfl
def s26 (f:Frm) (p:Int):CallSpec:={ args:=[vFrm f,iv p],res := .tup [iv (growN f p),iv (growE f p)],pre:=smallF f }
def c26c (f:Frm) (p:Int):CallSpec:=s89o (openFr f (isPc f p)).pieces 152
def c26w (f:Frm) (p:Int) (k:Nat):CallSpec:=lendS 46 152 0 (some 3) (s90w (grownF (openFr f (isPc f p)) p.toNat (99 - k)) 0)
def h26 (f:Frm) (p:Int):Hint:={ X:=Nat,M:=fun k=>[],H:=fun k=>[(152,.vec 46 3 (openFr f (isPc f p)).pieces.length (fun i=>cPiece (pc (grownF (openFr f (isPc f p)) p.toNat (99 - k)) i)))],I:=fun k=>k<=100 - (pc (openFr f (isPc f p)) p.toNat).lo.toNat /\ ∀ j,j < k->(wholeP (grownF (openFr f (isPc f p)) p.toNat (99 - j)) 0).isSome=false,mu:=fun k=>100 - k,x0:=(0:Nat),nx:=fun k=>k + 1 }
end Go.Ab
namespace Go.Sh
open Go.Ab
variable {f:Frm}
theorem grown_len (f:Frm) (p:Nat) (n:Int):(grownF f p n).pieces.length=f.pieces.length:=by unfold grownF; exact List.length_set
theorem grown_pc {p:Nat} (n:Int) (hp:p < f.pieces.length) (i:Nat):pc (grownF f p n) i=if i=p then { pc f p with hi:=n } else pc f i:=by
 show (f.pieces.set p { pc f p with hi:=n }).getD i default=_
 rw [List.getD_eq_getElem?_getD,List.getElem?_set]
 by_cases e:i=p
 ·subst e; rw [if_pos rfl,if_pos hp,if_pos rfl]; rfl
 ·rw [if_neg (fun h=>e h.symm),if_neg e,pc,List.getD_eq_getElem?_getD]
theorem grown_sound (hs:Sound f) {p:Nat} (hp:p < f.pieces.length) {n:Int} (h1:(pc f p).lo<=n) (h2:n<=99):Sound (grownF f p n):=by
 refine ⟨hs.len,hs.slack,hs.strips,by rw [grown_len]; exact hs.pieces,hs.columns,hs.strip,fun i hi => ?_,hs.colLen,fun i k hk=>by rw [grown_len]; exact hs.colIn i k hk⟩
 rw [grown_len] at hi
 rw [grown_pc n hp]
 have:=hs.piece p hp
 split
 ·exact ⟨this.1,h1,h2,this.2.2.2.1,this.2.2.2.2⟩
 ·exact hs.piece i hi
theorem grow_hit {p k:Nat} (hk:k < 100 - (pc f p).lo.toNat) (h:∀ j,j < k->(wholeP (grownF f p (99 - (j:Int))) 0).isSome=false) (hw:(wholeP (grownF f p (99 - (k:Int))) 0).isSome=true):growK f p=some k:=by
 unfold growK
 rw [List.find?_range_eq_some]
 exact ⟨hw,List.mem_range.2 hk,fun j hj=>by rw [h j hj]; rfl⟩
theorem grow_none {p:Nat} (h:∀ j,j < 100 - (pc f p).lo.toNat->(wholeP (grownF f p (99 - (j:Int))) 0).isSome=false):growK f p=none:=by
 unfold growK
 rw [List.find?_eq_none]
 intro j hj
 rw [h j (List.mem_range.1 hj)]; exact Bool.false_ne_true
end Go.Sh
namespace Go.Ab
open Go Go.RowKit Go.Proofs Go.Sh Go.En
theorem w26 (f:Frm) (p:Int)
  (o0:smallF f->fitsF f)
  (o1:smallF f->(!decide (openF f (isPc f p)=0))=true->0=growN f p)
  (o2:smallF f->(!decide (openF f (isPc f p)=0))=true->openF f (isPc f p)=growE f p)
  (o3:smallF f->(!decide (openF f (isPc f p)=0))=false -> ∀ (i3:Nat),i3 < (openFr f (isPc f p)).pieces.length->cPiece (pc (openFr f (isPc f p)) i3)=cPiece ((openFr f (isPc f p)).pieces.getD i3 default))
  (o4:smallF f->(!decide (openF f (isPc f p)=0))=false->0 < (openFr f (isPc f p)).pieces.length)
  (o5:smallF f->(!decide (openF f (isPc f p)=0))=false->(openFr f (isPc f p)).pieces.length<=60000)
  (o6:smallF f->(!decide (openF f (isPc f p)=0))=false->0<=p)
  (o7:smallF f->(!decide (openF f (isPc f p)=0))=false->p < (↑((openFr f (isPc f p)).pieces.length):Int))
  (o8:smallF f->(!decide (openF f (isPc f p)=0))=false->p.toNat < (openFr f (isPc f p)).pieces.length)
  (o9:smallF f->(!decide (openF f (isPc f p)=0))=false -> ∀ (i11:Nat),i11 < (openFr f (isPc f p)).pieces.length->Decidable.rec (fun (h:¬i11=p.toNat)=>cPiece ((openFr f (isPc f p)).pieces.getD i11 default)) (fun (h:i11=p.toNat)=>[] ++ ([iv ((openFr f (isPc f p)).pieces.getD p.toNat default).lo] ++ ([iv 99] ++ [iv ((openFr f (isPc f p)).pieces.getD p.toNat default).pence]))) (instDecidableEqNat i11 p.toNat)=cPiece (pc (grownF (openFr f (isPc f p)) p.toNat (99 - (↑0:Int))) i11))
  (o10:smallF f->(!decide (openF f (isPc f p)=0))=false->0<=100 - (pc (openFr f (isPc f p)) p.toNat).lo.toNat /\ ∀ (j:Nat),j < 0->Option.isSome (wholeP (grownF (openFr f (isPc f p)) p.toNat (99 - (j:Int))) 0)=false)
  (o11:smallF f->(!decide (openF f (isPc f p)=0))=false -> ∀ (x6:Nat),(x6<=100 - (pc (openFr f (isPc f p)) p.toNat).lo.toNat /\ ∀ (j:Nat),j < x6->Option.isSome (wholeP (grownF (openFr f (isPc f p)) p.toNat (99 - (j:Int))) 0)=false)->p.toNat < (openFr f (isPc f p)).pieces.length)
  (o12:smallF f->(!decide (openF f (isPc f p)=0))=false -> ∀ (x6:Nat),(x6<=100 - (pc (openFr f (isPc f p)) p.toNat).lo.toNat /\ ∀ (j:Nat),j < x6->Option.isSome (wholeP (grownF (openFr f (isPc f p)) p.toNat (99 - (j:Int))) 0)=false)->p.toNat < (openFr f (isPc f p)).pieces.length)
  (o13:smallF f->(!decide (openF f (isPc f p)=0))=false -> ∀ (x6:Nat),(x6<=100 - (pc (openFr f (isPc f p)) p.toNat).lo.toNat /\ ∀ (j:Nat),j < x6->Option.isSome (wholeP (grownF (openFr f (isPc f p)) p.toNat (99 - (j:Int))) 0)=false)->decide ((pc (grownF (openFr f (isPc f p)) p.toNat (99 - (x6:Int))) p.toNat).lo<=(pc (grownF (openFr f (isPc f p)) p.toNat (99 - (x6:Int))) p.toNat).hi)=true->(openFr f (isPc f p)).length=(grownF (openFr f (isPc f p)) p.toNat (99 - (x6:Int))).length)
  (o14:smallF f->(!decide (openF f (isPc f p)=0))=false -> ∀ (x6:Nat),(x6<=100 - (pc (openFr f (isPc f p)) p.toNat).lo.toNat /\ ∀ (j:Nat),j < x6->Option.isSome (wholeP (grownF (openFr f (isPc f p)) p.toNat (99 - (j:Int))) 0)=false)->decide ((pc (grownF (openFr f (isPc f p)) p.toNat (99 - (x6:Int))) p.toNat).lo<=(pc (grownF (openFr f (isPc f p)) p.toNat (99 - (x6:Int))) p.toNat).hi)=true->(openFr f (isPc f p)).slack=(grownF (openFr f (isPc f p)) p.toNat (99 - (x6:Int))).slack)
  (o15:smallF f->(!decide (openF f (isPc f p)=0))=false -> ∀ (x6:Nat),(x6<=100 - (pc (openFr f (isPc f p)) p.toNat).lo.toNat /\ ∀ (j:Nat),j < x6->Option.isSome (wholeP (grownF (openFr f (isPc f p)) p.toNat (99 - (j:Int))) 0)=false)->decide ((pc (grownF (openFr f (isPc f p)) p.toNat (99 - (x6:Int))) p.toNat).lo<=(pc (grownF (openFr f (isPc f p)) p.toNat (99 - (x6:Int))) p.toNat).hi)=true->(openFr f (isPc f p)).strips.length=(grownF (openFr f (isPc f p)) p.toNat (99 - (x6:Int))).strips.length)
  (o16:smallF f->(!decide (openF f (isPc f p)=0))=false -> ∀ (x6:Nat),(x6<=100 - (pc (openFr f (isPc f p)) p.toNat).lo.toNat /\ ∀ (j:Nat),j < x6->Option.isSome (wholeP (grownF (openFr f (isPc f p)) p.toNat (99 - (j:Int))) 0)=false)->decide ((pc (grownF (openFr f (isPc f p)) p.toNat (99 - (x6:Int))) p.toNat).lo<=(pc (grownF (openFr f (isPc f p)) p.toNat (99 - (x6:Int))) p.toNat).hi)=true -> ∀ (i14:Nat),i14 < (grownF (openFr f (isPc f p)) p.toNat (99 - (x6:Int))).strips.length->cStrip (stp (openFr f (isPc f p)) i14)=cStrip (stp (grownF (openFr f (isPc f p)) p.toNat (99 - (x6:Int))) i14))
  (o17:smallF f->(!decide (openF f (isPc f p)=0))=false -> ∀ (x6:Nat),(x6<=100 - (pc (openFr f (isPc f p)) p.toNat).lo.toNat /\ ∀ (j:Nat),j < x6->Option.isSome (wholeP (grownF (openFr f (isPc f p)) p.toNat (99 - (j:Int))) 0)=false)->decide ((pc (grownF (openFr f (isPc f p)) p.toNat (99 - (x6:Int))) p.toNat).lo<=(pc (grownF (openFr f (isPc f p)) p.toNat (99 - (x6:Int))) p.toNat).hi)=true->(openFr f (isPc f p)).columns.length=(grownF (openFr f (isPc f p)) p.toNat (99 - (x6:Int))).columns.length)
  (o18:smallF f->(!decide (openF f (isPc f p)=0))=false -> ∀ (x6:Nat),(x6<=100 - (pc (openFr f (isPc f p)) p.toNat).lo.toNat /\ ∀ (j:Nat),j < x6->Option.isSome (wholeP (grownF (openFr f (isPc f p)) p.toNat (99 - (j:Int))) 0)=false)->decide ((pc (grownF (openFr f (isPc f p)) p.toNat (99 - (x6:Int))) p.toNat).lo<=(pc (grownF (openFr f (isPc f p)) p.toNat (99 - (x6:Int))) p.toNat).hi)=true -> ∀ (i16:Nat),i16 < (grownF (openFr f (isPc f p)) p.toNat (99 - (x6:Int))).columns.length -> [aInts (col (openFr f (isPc f p)) i16)] = [aInts (col (grownF (openFr f (isPc f p)) p.toNat (99 - (x6:Int))) i16)])
  (o19:smallF f->(!decide (openF f (isPc f p)=0))=false -> ∀ (x6:Nat),(x6<=100 - (pc (openFr f (isPc f p)) p.toNat).lo.toNat /\ ∀ (j:Nat),j < x6->Option.isSome (wholeP (grownF (openFr f (isPc f p)) p.toNat (99 - (j:Int))) 0)=false)->decide ((pc (grownF (openFr f (isPc f p)) p.toNat (99 - (x6:Int))) p.toNat).lo<=(pc (grownF (openFr f (isPc f p)) p.toNat (99 - (x6:Int))) p.toNat).hi)=true->Sound (grownF (openFr f (isPc f p)) p.toNat (99 - (x6:Int))))
  (o20:smallF f->(!decide (openF f (isPc f p)=0))=false -> ∀ (x6:Nat),(x6<=100 - (pc (openFr f (isPc f p)) p.toNat).lo.toNat /\ ∀ (j:Nat),j < x6->Option.isSome (wholeP (grownF (openFr f (isPc f p)) p.toNat (99 - (j:Int))) 0)=false)->decide ((pc (grownF (openFr f (isPc f p)) p.toNat (99 - (x6:Int))) p.toNat).lo<=(pc (grownF (openFr f (isPc f p)) p.toNat (99 - (x6:Int))) p.toNat).hi)=true->some (OB.vec 46 3 (openFr f (isPc f p)).pieces.length fun (i:Nat)=>cPiece (pc (grownF (openFr f (isPc f p)) p.toNat (99 - (x6:Int))) i))=some (OB.vec 46 3 (grownF (openFr f (isPc f p)) p.toNat (99 - (x6:Int))).pieces.length fun (i:Nat)=>cPiece (pc (grownF (openFr f (isPc f p)) p.toNat (99 - (x6:Int))) i)))
  (o21:smallF f->(!decide (openF f (isPc f p)=0))=false -> ∀ (x6:Nat),(x6<=100 - (pc (openFr f (isPc f p)) p.toNat).lo.toNat /\ ∀ (j:Nat),j < x6->Option.isSome (wholeP (grownF (openFr f (isPc f p)) p.toNat (99 - (j:Int))) 0)=false)->decide ((pc (grownF (openFr f (isPc f p)) p.toNat (99 - (x6:Int))) p.toNat).lo<=(pc (grownF (openFr f (isPc f p)) p.toNat (99 - (x6:Int))) p.toNat).hi)=true->(!!Option.isSome (wholeP (grownF (openFr f (isPc f p)) p.toNat (99 - (x6:Int))) 0))=true->p.toNat < (grownF (openFr f (isPc f p)) p.toNat (99 - (x6:Int))).pieces.length)
  (o22:smallF f->(!decide (openF f (isPc f p)=0))=false -> ∀ (x6:Nat),(x6<=100 - (pc (openFr f (isPc f p)) p.toNat).lo.toNat /\ ∀ (j:Nat),j < x6->Option.isSome (wholeP (grownF (openFr f (isPc f p)) p.toNat (99 - (j:Int))) 0)=false)->decide ((pc (grownF (openFr f (isPc f p)) p.toNat (99 - (x6:Int))) p.toNat).lo<=(pc (grownF (openFr f (isPc f p)) p.toNat (99 - (x6:Int))) p.toNat).hi)=true->(!!Option.isSome (wholeP (grownF (openFr f (isPc f p)) p.toNat (99 - (x6:Int))) 0))=true->(pc (grownF (openFr f (isPc f p)) p.toNat (99 - (x6:Int))) p.toNat).hi=growN f p)
  (o23:smallF f->(!decide (openF f (isPc f p)=0))=false -> ∀ (x6:Nat),(x6<=100 - (pc (openFr f (isPc f p)) p.toNat).lo.toNat /\ ∀ (j:Nat),j < x6->Option.isSome (wholeP (grownF (openFr f (isPc f p)) p.toNat (99 - (j:Int))) 0)=false)->decide ((pc (grownF (openFr f (isPc f p)) p.toNat (99 - (x6:Int))) p.toNat).lo<=(pc (grownF (openFr f (isPc f p)) p.toNat (99 - (x6:Int))) p.toNat).hi)=true->(!!Option.isSome (wholeP (grownF (openFr f (isPc f p)) p.toNat (99 - (x6:Int))) 0))=true->0=growE f p)
  (o24:smallF f->(!decide (openF f (isPc f p)=0))=false -> ∀ (x6:Nat),(x6<=100 - (pc (openFr f (isPc f p)) p.toNat).lo.toNat /\ ∀ (j:Nat),j < x6->Option.isSome (wholeP (grownF (openFr f (isPc f p)) p.toNat (99 - (j:Int))) 0)=false)->decide ((pc (grownF (openFr f (isPc f p)) p.toNat (99 - (x6:Int))) p.toNat).lo<=(pc (grownF (openFr f (isPc f p)) p.toNat (99 - (x6:Int))) p.toNat).hi)=true->(!!Option.isSome (wholeP (grownF (openFr f (isPc f p)) p.toNat (99 - (x6:Int))) 0))=false->p.toNat < (grownF (openFr f (isPc f p)) p.toNat (99 - (x6:Int))).pieces.length)
  (o25:smallF f->(!decide (openF f (isPc f p)=0))=false -> ∀ (x6:Nat),(x6<=100 - (pc (openFr f (isPc f p)) p.toNat).lo.toNat /\ ∀ (j:Nat),j < x6->Option.isSome (wholeP (grownF (openFr f (isPc f p)) p.toNat (99 - (j:Int))) 0)=false)->decide ((pc (grownF (openFr f (isPc f p)) p.toNat (99 - (x6:Int))) p.toNat).lo<=(pc (grownF (openFr f (isPc f p)) p.toNat (99 - (x6:Int))) p.toNat).hi)=true->(!!Option.isSome (wholeP (grownF (openFr f (isPc f p)) p.toNat (99 - (x6:Int))) 0))=false->inI ((pc (grownF (openFr f (isPc f p)) p.toNat (99 - (x6:Int))) p.toNat).hi - 1))
  (o26:smallF f->(!decide (openF f (isPc f p)=0))=false -> ∀ (x6:Nat),(x6<=100 - (pc (openFr f (isPc f p)) p.toNat).lo.toNat /\ ∀ (j:Nat),j < x6->Option.isSome (wholeP (grownF (openFr f (isPc f p)) p.toNat (99 - (j:Int))) 0)=false)->decide ((pc (grownF (openFr f (isPc f p)) p.toNat (99 - (x6:Int))) p.toNat).lo<=(pc (grownF (openFr f (isPc f p)) p.toNat (99 - (x6:Int))) p.toNat).hi)=true->(!!Option.isSome (wholeP (grownF (openFr f (isPc f p)) p.toNat (99 - (x6:Int))) 0))=false->p.toNat < (grownF (openFr f (isPc f p)) p.toNat (99 - (x6:Int))).pieces.length)
  (o27:smallF f->(!decide (openF f (isPc f p)=0))=false -> ∀ (x6:Nat),(x6<=100 - (pc (openFr f (isPc f p)) p.toNat).lo.toNat /\ ∀ (j:Nat),j < x6->Option.isSome (wholeP (grownF (openFr f (isPc f p)) p.toNat (99 - (j:Int))) 0)=false)->decide ((pc (grownF (openFr f (isPc f p)) p.toNat (99 - (x6:Int))) p.toNat).lo<=(pc (grownF (openFr f (isPc f p)) p.toNat (99 - (x6:Int))) p.toNat).hi)=true->(!!Option.isSome (wholeP (grownF (openFr f (isPc f p)) p.toNat (99 - (x6:Int))) 0))=false->(grownF (openFr f (isPc f p)) p.toNat (99 - (x6:Int))).pieces.length=(openFr f (isPc f p)).pieces.length)
  (o28:smallF f->(!decide (openF f (isPc f p)=0))=false -> ∀ (x6:Nat),(x6<=100 - (pc (openFr f (isPc f p)) p.toNat).lo.toNat /\ ∀ (j:Nat),j < x6->Option.isSome (wholeP (grownF (openFr f (isPc f p)) p.toNat (99 - (j:Int))) 0)=false)->decide ((pc (grownF (openFr f (isPc f p)) p.toNat (99 - (x6:Int))) p.toNat).lo<=(pc (grownF (openFr f (isPc f p)) p.toNat (99 - (x6:Int))) p.toNat).hi)=true->(!!Option.isSome (wholeP (grownF (openFr f (isPc f p)) p.toNat (99 - (x6:Int))) 0))=false -> ∀ (i24:Nat),i24 < (grownF (openFr f (isPc f p)) p.toNat (99 - (x6:Int))).pieces.length->Decidable.rec (fun (h:¬i24=p.toNat)=>cPiece (pc (grownF (openFr f (isPc f p)) p.toNat (99 - (x6:Int))) i24)) (fun (h:i24=p.toNat)=>[] ++ ([iv (pc (grownF (openFr f (isPc f p)) p.toNat (99 - (x6:Int))) p.toNat).lo] ++ ([iv ((pc (grownF (openFr f (isPc f p)) p.toNat (99 - (x6:Int))) p.toNat).hi - 1)] ++ [iv (pc (grownF (openFr f (isPc f p)) p.toNat (99 - (x6:Int))) p.toNat).pence]))) (instDecidableEqNat i24 p.toNat)=cPiece (pc (grownF (openFr f (isPc f p)) p.toNat (99 - (↑(x6 + 1):Int))) i24))
  (o29:smallF f->(!decide (openF f (isPc f p)=0))=false -> ∀ (x6:Nat),(x6<=100 - (pc (openFr f (isPc f p)) p.toNat).lo.toNat /\ ∀ (j:Nat),j < x6->Option.isSome (wholeP (grownF (openFr f (isPc f p)) p.toNat (99 - (j:Int))) 0)=false)->decide ((pc (grownF (openFr f (isPc f p)) p.toNat (99 - (x6:Int))) p.toNat).lo<=(pc (grownF (openFr f (isPc f p)) p.toNat (99 - (x6:Int))) p.toNat).hi)=true->(!!Option.isSome (wholeP (grownF (openFr f (isPc f p)) p.toNat (99 - (x6:Int))) 0))=false->x6 + 1<=100 - (pc (openFr f (isPc f p)) p.toNat).lo.toNat /\ ∀ (j:Nat),j < x6 + 1->Option.isSome (wholeP (grownF (openFr f (isPc f p)) p.toNat (99 - (j:Int))) 0)=false)
  (o30:smallF f->(!decide (openF f (isPc f p)=0))=false -> ∀ (x6:Nat),(x6<=100 - (pc (openFr f (isPc f p)) p.toNat).lo.toNat /\ ∀ (j:Nat),j < x6->Option.isSome (wholeP (grownF (openFr f (isPc f p)) p.toNat (99 - (j:Int))) 0)=false)->decide ((pc (grownF (openFr f (isPc f p)) p.toNat (99 - (x6:Int))) p.toNat).lo<=(pc (grownF (openFr f (isPc f p)) p.toNat (99 - (x6:Int))) p.toNat).hi)=true->(!!Option.isSome (wholeP (grownF (openFr f (isPc f p)) p.toNat (99 - (x6:Int))) 0))=false->100 - (x6 + 1) < 100 - x6)
  (o31:smallF f->(!decide (openF f (isPc f p)=0))=false -> ∀ (x6:Nat),(x6<=100 - (pc (openFr f (isPc f p)) p.toNat).lo.toNat /\ ∀ (j:Nat),j < x6->Option.isSome (wholeP (grownF (openFr f (isPc f p)) p.toNat (99 - (j:Int))) 0)=false)->decide ((pc (grownF (openFr f (isPc f p)) p.toNat (99 - (x6:Int))) p.toNat).lo<=(pc (grownF (openFr f (isPc f p)) p.toNat (99 - (x6:Int))) p.toNat).hi)=false->0=growN f p)
  (o32:smallF f->(!decide (openF f (isPc f p)=0))=false -> ∀ (x6:Nat),(x6<=100 - (pc (openFr f (isPc f p)) p.toNat).lo.toNat /\ ∀ (j:Nat),j < x6->Option.isSome (wholeP (grownF (openFr f (isPc f p)) p.toNat (99 - (j:Int))) 0)=false)->decide ((pc (grownF (openFr f (isPc f p)) p.toNat (99 - (x6:Int))) p.toNat).lo<=(pc (grownF (openFr f (isPc f p)) p.toNat (99 - (x6:Int))) p.toNat).hi)=false->3=growE f p) :
  Triple Try.prog 26 (s26 f p):=by
 refine triple_of Try.func26 rfl Try.call26 T0_ok _ rfl rfl rfl rfl (Nat.le_of_ble_eq_true (by kernel_rfl)) (fun _ _ _ _ h=>h) ?_
 intro hpre C hC _ hE
 obtain ⟨P,w0,E0,av,hA,ro,df⟩:=C
 obtain ⟨rfl,rfl,rfl⟩:=hC
 refine swp_seq ?_
 refine zR [1,2] [0] (Ak 3 tv) ?_
 refine swp_seq ?_
 refine zC ([(3,CallSpec.eq (s88 f p) [true,true]),(4,CallSpec.eq (s83 f (isPc f p)) [true,true])]) [1,6,7] [88] (Ak 3 (An (An (An (zr (AV.agg (cFrm f))) (An (zr (iv p)) tv)) (An (t88 (f) (p)) (An (o0 hpre) (Ak 1 (fun (i0:Env)=>tv))))) (An (An (An (zr (AV.agg (cFrm f))) (An (zr (bv (isPc f p))) tv)) (An (t83 (f) (isPc f p)) (An hpre (Ak 1 (fun (i1:Env)=>tv))))) (Ak 6 tv)))) ?_
 refine swp_seq ?_
 refine swp_seq ?_
 refine zR [1,6,7,18] [88] (Ak 2 tv) ?_
 refine zI (!decide (openF f (isPc f p)=0)) (fun y2 => ?_) (fun y2 => ?_)
 ·refine swp_seq ?_
  refine zR [4,5] [] (Ak 3 tv) ?_
  refine swp_ret ?_
  exact zT [] (An (Ak 2 tv) (An (An (An (ci (o1 hpre y2)) (zr nilN)) (An (An (ci (o2 hpre y2)) (zr nilN)) tv)) (An (zr true) (An (zr true) (zr true)))))
 ·refine swp_skip ?_
  refine swp_seq ?_
  refine zC ([(3,CallSpec.eq (c26c f p) [false])]) [1,6] [88,152] (Ak 3 (An (An (An (An (zr 3) (An (zr (openFr f (isPc f p)).pieces.length) (fun (i3:Nat)=>(fun (y4:i3 < (openFr f (isPc f p)).pieces.length)=>(o3 hpre y2 i3 y4))))) tv) (An (t89o (openFr f (isPc f p)).pieces (152)) (An (An (o4 hpre y2) (o5 hpre y2)) (Ak 1 (fun (i5:Env)=>tv))))) (Ak 3 tv))) ?_
  refine swp_seq ?_
  refine zR [6,8] [88,152] (Ak 4 (An (An (o6 hpre y2) (o7 hpre y2)) (Ak 2 tv))) ?_
  refine swp_seq ?_
  refine swp_seq ?_
  refine zR [6,8] [88,152] (Ak 3 (An (An (o8 hpre y2) tv) tv)) ?_
  refine swp_block ?_
  refine zL (Hint.ann (h26 f p) [(6,AV.ptr 88 []),(8,AV.vp 152 p.toNat 3 [PS.fld 0])] [(88,OB.cells 101 [iv (openFr f (isPc f p)).length,iv (openFr f (isPc f p)).slack,AV.sl 2 (openFr f (isPc f p)).strips.length fun (i:Nat)=>cStrip (stp (openFr f (isPc f p)) i),AV.vec 152,AV.sl 1 (openFr f (isPc f p)).columns.length fun (i:Nat)=>[aInts (col (openFr f (isPc f p)) i)]])] 10272) (zE hE [] [(88,.same 88),(152,.same 152)] [] [] (An (An (An (zr (some (Src.same 88))) (zr nilP)) (An (An (zr (some (Src.same 152))) (An (zr p.toNat) (An (zr 3) (zr ([PS.fld 0]))))) tv)) (An (An (An (zr 101) (An (An (An (zr (iv (openFr f (isPc f p)).length)) (zr nilN)) (An (An (zr (iv (openFr f (isPc f p)).slack)) (zr nilN)) (An (An (zr 2) (An (zr (openFr f (isPc f p)).strips.length) (fun (i7:Nat)=>(fun (y8:i7 < (openFr f (isPc f p)).strips.length)=>(zr (cStrip (stp (openFr f (isPc f p)) i7))))))) (An (zr (some (Src.same 152))) (An (An (zr 1) (An (zr (openFr f (isPc f p)).columns.length) (fun (i9:Nat)=>(fun (y10:i9 < (openFr f (isPc f p)).columns.length)=>(zr ([aInts (col (openFr f (isPc f p)) i9)])))))) tv))))) (zr true))) (An (An (zr 46) (An (zr 3) (An (zr (openFr f (isPc f p)).pieces.length) (fun (i11:Nat)=>(fun (y12:i11 < (openFr f (isPc f p)).pieces.length)=>(o9 hpre y2 i11 y12)))))) tv)) (An (zr true) (zr true))))) (o10 hpre y2) (fun (x6:Nat) hx6 => ?_)
  refine swp_seq ?_
  refine swp_seq ?_
  refine zR [6,8,43] [88,152] (Ak 3 (An (An (o11 hpre y2 x6 hx6) tv) (Ak 3 (An (An (o12 hpre y2 x6 hx6) tv) (Ak 1 tv))))) ?_
  refine zI (decide ((pc (grownF (openFr f (isPc f p)) p.toNat (99 - (x6:Int))) p.toNat).lo<=(pc (grownF (openFr f (isPc f p)) p.toNat (99 - (x6:Int))) p.toNat).hi)) (fun y13 => ?_) (fun y13 => ?_)
  ·refine swp_skip ?_
   refine swp_seq ?_
   refine swp_block ?_
   refine swp_seq ?_
   refine zC ([(1,CallSpec.eq (c26w f p x6) [false,true])]) [6,8,53] [88,152] (Ak 1 (An (An (An (An (ci (o13 hpre y2 x6 hx6 y13)) (An (ci (o14 hpre y2 x6 hx6 y13)) (An (An (zr 2) (An (o15 hpre y2 x6 hx6 y13) (fun (i14:Nat)=>(fun (y15:i14 < (grownF (openFr f (isPc f p)) p.toNat (99 - (x6:Int))).strips.length)=>(o16 hpre y2 x6 hx6 y13 i14 y15))))) (An (zr (AV.vec 152)) (An (An (zr 1) (An (o17 hpre y2 x6 hx6 y13) (fun (i16:Nat)=>(fun (y17:i16 < (grownF (openFr f (isPc f p)) p.toNat (99 - (x6:Int))).columns.length)=>(o18 hpre y2 x6 hx6 y13 i16 y17))))) tv))))) (An (zr (iv 0)) tv)) (An (lendT 46 152 0 (some 3) (t90w (grownF (openFr f (isPc f p)) p.toNat (99 - (x6:Int))) (0))) (An (An (o19 hpre y2 x6 hx6 y13) (An (by decide:Int.ofNat 0<=Int.ofNat 0) (by decide:Int.ofNat 0<=Int.ofNat 1000))) (An (An (o20 hpre y2 x6 hx6 y13) tv) (fun (i18:Env)=>tv))))) (Ak 1 tv))) ?_
   refine zI (!!Option.isSome (wholeP (grownF (openFr f (isPc f p)) p.toNat (99 - (x6:Int))) 0)) (fun y19 => ?_) (fun y19 => ?_)
   ·refine swp_seq ?_
    refine zR [4,5] [] (Ak 3 (An (An (o21 hpre y2 x6 hx6 y13 y19) tv) (Ak 2 tv))) ?_
    refine swp_ret ?_
    exact zT [] (An (Ak 2 tv) (An (An (An (ci (o22 hpre y2 x6 hx6 y13 y19)) (zr nilN)) (An (An (ci (o23 hpre y2 x6 hx6 y13 y19)) (zr nilN)) tv)) (An (zr true) (An (zr true) (zr true)))))
   ·refine swp_skip ?_
    refine zR [6,8] [88,152] (Ak 3 (An (An (o24 hpre y2 x6 hx6 y13 y19) tv) (An (o25 hpre y2 x6 hx6 y13 y19) (Ak 2 (An (An (o26 hpre y2 x6 hx6 y13 y19) tv) tv))))) ?_
    exact zn (zE hE [] [(88,.same 88),(152,.same 152)] [] [] (An (An (An (zr (some (Src.same 88))) (zr nilP)) (An (An (zr (some (Src.same 152))) (An (zr p.toNat) (An (zr 3) (zr ([PS.fld 0]))))) tv)) (An (An (An (zr 101) (An (An (An (zr (iv (openFr f (isPc f p)).length)) (zr nilN)) (An (An (zr (iv (openFr f (isPc f p)).slack)) (zr nilN)) (An (An (zr 2) (An (zr (openFr f (isPc f p)).strips.length) (fun (i20:Nat)=>(fun (y21:i20 < (openFr f (isPc f p)).strips.length)=>(zr (cStrip (stp (openFr f (isPc f p)) i20))))))) (An (zr (some (Src.same 152))) (An (An (zr 1) (An (zr (openFr f (isPc f p)).columns.length) (fun (i22:Nat)=>(fun (y23:i22 < (openFr f (isPc f p)).columns.length)=>(zr ([aInts (col (openFr f (isPc f p)) i22)])))))) tv))))) (zr true))) (An (An (zr 46) (An (zr 3) (An (o27 hpre y2 x6 hx6 y13 y19) (fun (i24:Nat)=>(fun (y25:i24 < (grownF (openFr f (isPc f p)) p.toNat (99 - (x6:Int))).pieces.length)=>(o28 hpre y2 x6 hx6 y13 y19 i24 y25)))))) tv)) (An (zr true) (zr true))))) (o29 hpre y2 x6 hx6 y13 y19) (o30 hpre y2 x6 hx6 y13 y19)
  ·refine swp_exit ?_
   refine swp_seq ?_
   refine zR [4,5] [] (Ak 2 tv) ?_
   refine swp_ret ?_
   exact zT [] (An (Ak 2 tv) (An (An (An (ci (o31 hpre y2 x6 hx6 y13)) (zr nilN)) (An (An (ci (o32 hpre y2 x6 hx6 y13)) (zr nilN)) tv)) (An (zr true) (An (zr true) (zr true)))))
theorem t26 (f:Frm) (p:Int):Triple Try.prog 26 (s26 f p):=by
 apply w26
 case o0=>exact fun hp=>small_fits hp
 all_goals (intro hp h)
 case o1=>have e:=gate_bad h; simp [growN,growG,e]
 case o2=>have e:=gate_bad h; simp [growE,growG,e]
 all_goals (obtain ⟨e1,e0,e2,e3,e4⟩:=gate_ok h; (try rw [e2]))
 all_goals (have hc:=isPc_get e0; have hn:p.toNat < f.pieces.length:=by omega)
 all_goals (have hpc:=e3.piece p.toNat hn; have hg:growG f p=true:=by simp [growG,e1,e0])
 case o3=>intro i _; rfl
 case o4=>omega
 case o5=>have:=e3.pieces; omega
 case o6=>exact hc.1
 case o7=>exact hc.2
 case o8=>exact hn
 case o9 =>
  intro i hi
  rw [grown_pc _ hn]
  refine rec_ei (fun h => ?_) (fun h => ?_)
  ·rw [if_neg h]; rfl
  ·rw [if_pos h]; rfl
 case o10=>exact ⟨Nat.zero_le _,fun j hj=>absurd hj (Nat.not_lt_zero _)⟩
 all_goals (intro x hx; obtain ⟨h1,h2⟩:=hx)
 all_goals (try rw [grown_len])
 all_goals (try exact hn)
 all_goals (intro hl; rw [grown_pc _ hn,if_pos rfl] at hl; try simp only [decide_eq_true_eq,decide_eq_false_iff_not] at hl)
 case o31 | o32 =>
  have hk:growK f p.toNat=none:=grow_none (fun j hj=>h2 j (by omega))
  first | (simp [growN,hg,hk]; done) | (simp [growE,hg,hk]; done)
 all_goals (have hx1:x < 100 - (pc f p.toNat).lo.toNat:=by omega)
 all_goals (try (first | rfl | (intro i _; rfl)))
 case o19=>exact grown_sound e3 hn (by omega) (by omega)
 all_goals (intro hw)
 case o21 | o24 | o26=>(try rw [grown_len]); exact hn
 case o27=>first | rfl | rw [grown_len]
 case o22 =>
  have hk:=grow_hit hx1 h2 (by simpa using hw)
  rw [grown_pc _ hn,if_pos rfl]; simp [growN,hg,hk]
 case o23 =>
  have hk:=grow_hit hx1 h2 (by simpa using hw)
  simp [growE,hg,hk]
 case o25=>rw [grown_pc _ hn,if_pos rfl]; exact ⟨by show _<=99 - (x:Int) - 1; omega,by show 99 - (x:Int) - 1<=_; omega⟩
 case o28 =>
  intro i hi
  rw [grown_pc _ hn,grown_pc _ hn,grown_pc _ hn]
  refine rec_ei (fun h => ?_) (fun h => ?_)
  ·rw [if_neg h,if_neg h]
  ·rw [if_pos h,if_pos rfl]; show [iv _,iv (99 - (x:Int) - 1),iv _] = [iv _,iv (99 - ((x + 1:Nat):Int)),iv _]; rw [show (99 - (x:Int) - 1)=99 - ((x + 1:Nat):Int) by omega]
 case o29=>exact ⟨by omega,lt_succ_cases h2 (by simpa using hw)⟩
 case o30=>omega
end Go.Ab
namespace Go.Sh
open Go.Ab
def setsP:List Int->List (List Int)
 | []=>[[]]
 | a :: ws=>(List.range (a.toNat + 1)).flatMap fun (n:Nat)=>(setsP ws).map (((n:Nat):Int) :: ·)
theorem range_mul {α:Type} (g:Nat->α) (P:Nat):∀ m,(List.range (m * P)).map g=(List.range m).flatMap fun n=>(List.range P).map fun r=>g (n * P + r):=by
 intro m
 induction m with
 | zero=>simp
 | succ m ih=>rw [Nat.succ_mul,List.range_add,List.map_append,ih,List.range_succ,List.flatMap_append,List.map_map]; simp
theorem setsP_eq:∀ left:List Int,setsP left=(List.range (prodL left)).map (setN left):=by
 intro left
 induction left with
 | nil=>rfl
 | cons a ws ih =>
  show _=(List.range ((a.toNat + 1) * prodL ws)).map _
  rw [range_mul,setsP,ih]
  congr 1
  funext n
  rw [List.map_map]
  refine List.map_congr_left fun r hr => ?_
  have h:=List.mem_range.1 hr
  show _=((((n * prodL ws + r) / prodL ws:Nat):Int) :: setN ws ((n * prodL ws + r) % prodL ws))
  rw [Nat.mul_comm,Nat.mul_add_div (prodL_pos ws),Nat.div_eq_of_lt h,Nat.mul_add_mod,Nat.mod_eq_of_lt h]; rfl
theorem earlier_irr:∀ a:List Int,earlier a a=false:=by
 intro a
 induction a with
 | nil=>rfl
 | cons x xs ih=>show (if _=_ then _ else _)=false; rw [if_pos rfl]; exact ih
theorem earlier_asym:∀ {a b:List Int},earlier a b=true->earlier b a=false:=by
 intro a
 induction a with
 | nil=>intro b h; cases h
 | cons x xs ih =>
  intro b h
  match b,h with
  | y :: ys,h =>
   simp only [earlier] at h ⊢
   by_cases e:x=y
   ·subst e; rw [if_pos rfl] at h ⊢; exact ih h
   ·rw [if_neg e] at h; rw [if_neg (fun h=>e h.symm)]
    simp only [decide_eq_true_eq,decide_eq_false_iff_not] at h ⊢; omega
def manyL:List (List Int)->Int
 | []=>0
 | s :: l=>sumS s + manyL l
def laysR (f:Frm):List Span->List Int->List (List (List Int))
 | [],_=>[[]]
 | r :: rs,left=>(setsP left).flatMap fun s=>if within (pointsP f s) r.lo r.hi then (laysR f rs (restL left s)).map (s :: ·) else []
theorem snoc_ind {α:Type} {P:List α->Prop} (h0:P []) (h1:∀ l x,P l->P (l ++ [x])) (l:List α):P l:=by
 have h:∀ m:List α,P m.reverse:=by
  intro m
  induction m with
  | nil=>exact h0
  | cons x m ih=>rw [List.reverse_cons]; exact h1 _ _ ih
 have:=h l.reverse
 rwa [List.reverse_reverse] at this
def fmS (b:Lay) (l:List (List Int)):Lay:=if betterL (manyL l) b then some (l,manyL l) else b
def fmL (ls:List (List (List Int))):Lay:=ls.foldl fmS none
theorem fm_snoc (ls:List (List (List Int))) (l:List (List Int)):fmL (ls ++ [l])=fmS (fmL ls) l:=by unfold fmL; rw [List.foldl_append]; rfl
def orL (a b:Lay):Lay:=match b with | none=>a | some x=>if betterL x.2 a then some x else a
theorem fm_append (a b:List (List (List Int))):fmL (a ++ b)=orL (fmL a) (fmL b):=by
 induction b using snoc_ind with
 | h0=>rw [List.append_nil]; rfl
 | h1 b x ih =>
  rw [← List.append_assoc,fm_snoc,fm_snoc,ih]
  generalize fmL a=p
  generalize fmL b=q
  cases q with
  | none=>rfl
  | some q =>
   cases p with
   | none =>
    by_cases h:manyL x < q.2 <;> simp [orL,fmS,betterL,h]
   | some p =>
    by_cases h1:q.2 < p.2
    ·by_cases h2:manyL x < q.2
     ·have h3:manyL x < p.2:=by omega
      simp [orL,fmS,betterL,h1,h2,h3]
     ·simp [orL,fmS,betterL,h1,h2]
    ·by_cases h2:manyL x < p.2
     ·have h3:manyL x < q.2:=by omega
      simp [orL,fmS,betterL,h1,h2,h3]
     ·by_cases h3:manyL x < q.2 <;> simp [orL,fmS,betterL,h1,h2,h3]
theorem fm_cons (s:List Int) (ls:List (List (List Int))):fmL (ls.map (s :: ·))=(fmL ls).map fun x=>(s :: x.1,sumS s + x.2):=by
 induction ls using snoc_ind with
 | h0=>rfl
 | h1 ls x ih =>
  rw [List.map_append,List.map_cons,List.map_nil,fm_snoc,fm_snoc,ih]
  cases fmL ls with
  | none=>rfl
  | some y =>
   by_cases h:manyL x < y.2
   ·have h2:sumS s + manyL x < sumS s + y.2:=by omega
    simp [fmS,betterL,manyL,h,h2]
   ·have h2:¬ sumS s + manyL x < sumS s + y.2:=by omega
    simp [fmS,betterL,manyL,h,h2]
theorem lock_fm (f:Frm):∀ (rooms:List Span) (left:List Int),lockP f rooms left=fmL (laysR f rooms left):=by
 intro rooms
 induction rooms with
 | nil=>intro left; rfl
 | cons r rs ih =>
  intro left
  rw [lockP,laysR,setsP_eq]
  generalize prodL left=n
  induction n with
  | zero=>rfl
  | succ n ihn =>
   rw [List.range_succ,List.foldl_append,ihn,List.map_append,List.flatMap_append,fm_append]
   generalize fmL _=b
   simp only [List.foldl_cons,List.foldl_nil,List.map_cons,List.map_nil,List.flatMap_cons,List.flatMap_nil,List.append_nil]
   unfold stepL
   split
   ·rw [ih,fm_cons]
    cases fmL (laysR f rs (restL left (setN left n))) with
    | none=>rfl
    | some x=>rfl
   ·rfl
theorem fm_none:∀ {ls:List (List (List Int))},fmL ls=none->ls = []:=by
 intro ls
 induction ls using snoc_ind with
 | h0=>intro _; rfl
 | h1 ls z _ =>
  intro h
  rw [fm_snoc] at h
  cases e2:fmL ls with
  | none=>rw [e2] at h; cases h
  | some w=>rw [e2] at h; simp only [fmS] at h; split at h <;> cases h
end Go.Sh
namespace Go.Sh
open Go.Ab
theorem rooms_get {f:Frm} {w:Int} {n i:Nat} (h:i < n):(roomsTo f w n).getD i ⟨0,0⟩=roomP f (highP f (delW (col f i) (bitP w))):=by
 rw [getD_lt _ _ (by rw [rooms_len]; exact h)]; unfold roomsTo; rw [List.getElem_map,List.getElem_range]
def sureH (f:Frm) (s:Span) (n:Int):Prop:=f.length - f.slack<=s.lo + n/\s.hi + n<=f.length
theorem within_room {f:Frm} {s:Span} {n:Int} (h:0<=n):within n (roomP f s).lo (roomP f s).hi=true ↔ sureH f s n:=by
 rw [within_iff]; unfold roomP sureH; simp only; omega
theorem lockP_congr {f g:Frm} (h:f.strips=g.strips):∀ (rooms:List Span) (left:List Int),lockP f rooms left=lockP g rooms left:=by
 have hp:∀ s,pointsP f s=pointsP g s:=by intro s; unfold pointsP ptTo stp; rw [h]
 intro rooms
 induction rooms with
 | nil=>intro left; rfl
 | cons r rs ih =>
  intro left
  have:lockP f rs=lockP g rs:=funext ih
  unfold lockP
  rw [this]
  congr 1
  funext b i
  unfold stepL
  rw [hp]
end Go.Sh
