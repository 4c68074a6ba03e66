/- Part 5 of the proof: own library, plain forms and walks. -/
import Derived.Test.YtpnmalddfpjcoaaQPagesGap4
set_option linter.all false
set_option linter.deprecated false
namespace Go.Ab
open Go Go.RowKit Go.Proofs Go.Sh Go.En
theorem w26 (f:Frm) (p:Int)
  (o0:smallF f->fitsF f)
  (o1:smallF f->(!decide (openF f (isPc f p)=0))=true->0=growN f p)
  (o2:smallF f->(!decide (openF f (isPc f p)=0))=true->openF f (isPc f p)=growE f p)
  (o3:smallF f->(!decide (openF f (isPc f p)=0))=false -> ∀ (i3:Nat),i3 < List.length (Frm.pieces (openFr f (isPc f p)))->cPiece (pc (openFr f (isPc f p)) i3)=cPiece (List.getD (Frm.pieces (openFr f (isPc f p))) i3 default))
  (o4:smallF f->(!decide (openF f (isPc f p)=0))=false->0 < List.length (Frm.pieces (openFr f (isPc f p))))
  (o5:smallF f->(!decide (openF f (isPc f p)=0))=false->List.length (Frm.pieces (openFr f (isPc f p)))<=60000)
  (o6:smallF f->(!decide (openF f (isPc f p)=0))=false->0<=p)
  (o7:smallF f->(!decide (openF f (isPc f p)=0))=false->p < (↑(List.length (Frm.pieces (openFr f (isPc f p)))):Int))
  (o8:smallF f->(!decide (openF f (isPc f p)=0))=false->Int.toNat p < List.length (Frm.pieces (openFr f (isPc f p))))
  (o9:smallF f->(!decide (openF f (isPc f p)=0))=false -> ∀ (i11:Nat),i11 < List.length (Frm.pieces (openFr f (isPc f p)))->Decidable.rec (fun (h:¬i11=Int.toNat p)=>cPiece (List.getD (Frm.pieces (openFr f (isPc f p))) i11 default)) (fun (h:i11=Int.toNat p)=>[] ++ ([iv (Piece.lo (List.getD (Frm.pieces (openFr f (isPc f p))) (Int.toNat p) default))] ++ ([iv 99] ++ [iv (Piece.pence (List.getD (Frm.pieces (openFr f (isPc f p))) (Int.toNat p) default))]))) (instDecidableEqNat i11 (Int.toNat p))=cPiece (pc (grownF (openFr f (isPc f p)) (Int.toNat p) (99 - (↑0:Int))) i11))
  (o10:smallF f->(!decide (openF f (isPc f p)=0))=false->0<=100 - Int.toNat (Piece.lo (pc (openFr f (isPc f p)) (Int.toNat p))) /\ ∀ (j:Nat),j < 0->Option.isSome (wholeP (grownF (openFr f (isPc f p)) (Int.toNat p) (99 - (↑j:Int))) 0)=false)
  (o11:smallF f->(!decide (openF f (isPc f p)=0))=false -> ∀ (x6:Nat),(x6<=100 - Int.toNat (Piece.lo (pc (openFr f (isPc f p)) (Int.toNat p))) /\ ∀ (j:Nat),j < x6->Option.isSome (wholeP (grownF (openFr f (isPc f p)) (Int.toNat p) (99 - (↑j:Int))) 0)=false)->Int.toNat p < List.length (Frm.pieces (openFr f (isPc f p))))
  (o12:smallF f->(!decide (openF f (isPc f p)=0))=false -> ∀ (x6:Nat),(x6<=100 - Int.toNat (Piece.lo (pc (openFr f (isPc f p)) (Int.toNat p))) /\ ∀ (j:Nat),j < x6->Option.isSome (wholeP (grownF (openFr f (isPc f p)) (Int.toNat p) (99 - (↑j:Int))) 0)=false)->Int.toNat p < List.length (Frm.pieces (openFr f (isPc f p))))
  (o13:smallF f->(!decide (openF f (isPc f p)=0))=false -> ∀ (x6:Nat),(x6<=100 - Int.toNat (Piece.lo (pc (openFr f (isPc f p)) (Int.toNat p))) /\ ∀ (j:Nat),j < x6->Option.isSome (wholeP (grownF (openFr f (isPc f p)) (Int.toNat p) (99 - (↑j:Int))) 0)=false)->decide (Piece.lo (pc (grownF (openFr f (isPc f p)) (Int.toNat p) (99 - (↑x6:Int))) (Int.toNat p))<=Piece.hi (pc (grownF (openFr f (isPc f p)) (Int.toNat p) (99 - (↑x6:Int))) (Int.toNat p)))=true->Frm.length (openFr f (isPc f p))=Frm.length (grownF (openFr f (isPc f p)) (Int.toNat p) (99 - (↑x6:Int))))
  (o14:smallF f->(!decide (openF f (isPc f p)=0))=false -> ∀ (x6:Nat),(x6<=100 - Int.toNat (Piece.lo (pc (openFr f (isPc f p)) (Int.toNat p))) /\ ∀ (j:Nat),j < x6->Option.isSome (wholeP (grownF (openFr f (isPc f p)) (Int.toNat p) (99 - (↑j:Int))) 0)=false)->decide (Piece.lo (pc (grownF (openFr f (isPc f p)) (Int.toNat p) (99 - (↑x6:Int))) (Int.toNat p))<=Piece.hi (pc (grownF (openFr f (isPc f p)) (Int.toNat p) (99 - (↑x6:Int))) (Int.toNat p)))=true->Frm.slack (openFr f (isPc f p))=Frm.slack (grownF (openFr f (isPc f p)) (Int.toNat p) (99 - (↑x6:Int))))
  (o15:smallF f->(!decide (openF f (isPc f p)=0))=false -> ∀ (x6:Nat),(x6<=100 - Int.toNat (Piece.lo (pc (openFr f (isPc f p)) (Int.toNat p))) /\ ∀ (j:Nat),j < x6->Option.isSome (wholeP (grownF (openFr f (isPc f p)) (Int.toNat p) (99 - (↑j:Int))) 0)=false)->decide (Piece.lo (pc (grownF (openFr f (isPc f p)) (Int.toNat p) (99 - (↑x6:Int))) (Int.toNat p))<=Piece.hi (pc (grownF (openFr f (isPc f p)) (Int.toNat p) (99 - (↑x6:Int))) (Int.toNat p)))=true->List.length (Frm.strips (openFr f (isPc f p)))=List.length (Frm.strips (grownF (openFr f (isPc f p)) (Int.toNat p) (99 - (↑x6:Int)))))
  (o16:smallF f->(!decide (openF f (isPc f p)=0))=false -> ∀ (x6:Nat),(x6<=100 - Int.toNat (Piece.lo (pc (openFr f (isPc f p)) (Int.toNat p))) /\ ∀ (j:Nat),j < x6->Option.isSome (wholeP (grownF (openFr f (isPc f p)) (Int.toNat p) (99 - (↑j:Int))) 0)=false)->decide (Piece.lo (pc (grownF (openFr f (isPc f p)) (Int.toNat p) (99 - (↑x6:Int))) (Int.toNat p))<=Piece.hi (pc (grownF (openFr f (isPc f p)) (Int.toNat p) (99 - (↑x6:Int))) (Int.toNat p)))=true -> ∀ (i14:Nat),i14 < List.length (Frm.strips (grownF (openFr f (isPc f p)) (Int.toNat p) (99 - (↑x6:Int))))->cStrip (stp (openFr f (isPc f p)) i14)=cStrip (stp (grownF (openFr f (isPc f p)) (Int.toNat p) (99 - (↑x6:Int))) i14))
  (o17:smallF f->(!decide (openF f (isPc f p)=0))=false -> ∀ (x6:Nat),(x6<=100 - Int.toNat (Piece.lo (pc (openFr f (isPc f p)) (Int.toNat p))) /\ ∀ (j:Nat),j < x6->Option.isSome (wholeP (grownF (openFr f (isPc f p)) (Int.toNat p) (99 - (↑j:Int))) 0)=false)->decide (Piece.lo (pc (grownF (openFr f (isPc f p)) (Int.toNat p) (99 - (↑x6:Int))) (Int.toNat p))<=Piece.hi (pc (grownF (openFr f (isPc f p)) (Int.toNat p) (99 - (↑x6:Int))) (Int.toNat p)))=true->List.length (Frm.columns (openFr f (isPc f p)))=List.length (Frm.columns (grownF (openFr f (isPc f p)) (Int.toNat p) (99 - (↑x6:Int)))))
  (o18:smallF f->(!decide (openF f (isPc f p)=0))=false -> ∀ (x6:Nat),(x6<=100 - Int.toNat (Piece.lo (pc (openFr f (isPc f p)) (Int.toNat p))) /\ ∀ (j:Nat),j < x6->Option.isSome (wholeP (grownF (openFr f (isPc f p)) (Int.toNat p) (99 - (↑j:Int))) 0)=false)->decide (Piece.lo (pc (grownF (openFr f (isPc f p)) (Int.toNat p) (99 - (↑x6:Int))) (Int.toNat p))<=Piece.hi (pc (grownF (openFr f (isPc f p)) (Int.toNat p) (99 - (↑x6:Int))) (Int.toNat p)))=true -> ∀ (i16:Nat),i16 < List.length (Frm.columns (grownF (openFr f (isPc f p)) (Int.toNat p) (99 - (↑x6:Int)))) -> [aInts (col (openFr f (isPc f p)) i16)] = [aInts (col (grownF (openFr f (isPc f p)) (Int.toNat p) (99 - (↑x6:Int))) i16)])
  (o19:smallF f->(!decide (openF f (isPc f p)=0))=false -> ∀ (x6:Nat),(x6<=100 - Int.toNat (Piece.lo (pc (openFr f (isPc f p)) (Int.toNat p))) /\ ∀ (j:Nat),j < x6->Option.isSome (wholeP (grownF (openFr f (isPc f p)) (Int.toNat p) (99 - (↑j:Int))) 0)=false)->decide (Piece.lo (pc (grownF (openFr f (isPc f p)) (Int.toNat p) (99 - (↑x6:Int))) (Int.toNat p))<=Piece.hi (pc (grownF (openFr f (isPc f p)) (Int.toNat p) (99 - (↑x6:Int))) (Int.toNat p)))=true->Sound (grownF (openFr f (isPc f p)) (Int.toNat p) (99 - (↑x6:Int))))
  (o20:smallF f->(!decide (openF f (isPc f p)=0))=false -> ∀ (x6:Nat),(x6<=100 - Int.toNat (Piece.lo (pc (openFr f (isPc f p)) (Int.toNat p))) /\ ∀ (j:Nat),j < x6->Option.isSome (wholeP (grownF (openFr f (isPc f p)) (Int.toNat p) (99 - (↑j:Int))) 0)=false)->decide (Piece.lo (pc (grownF (openFr f (isPc f p)) (Int.toNat p) (99 - (↑x6:Int))) (Int.toNat p))<=Piece.hi (pc (grownF (openFr f (isPc f p)) (Int.toNat p) (99 - (↑x6:Int))) (Int.toNat p)))=true->some (OB.vec 46 3 (List.length (Frm.pieces (openFr f (isPc f p)))) fun (i:Nat)=>cPiece (pc (grownF (openFr f (isPc f p)) (Int.toNat p) (99 - (↑x6:Int))) i))=some (OB.vec 46 3 (List.length (Frm.pieces (grownF (openFr f (isPc f p)) (Int.toNat p) (99 - (↑x6:Int))))) fun (i:Nat)=>cPiece (pc (grownF (openFr f (isPc f p)) (Int.toNat p) (99 - (↑x6:Int))) i)))
  (o21:smallF f->(!decide (openF f (isPc f p)=0))=false -> ∀ (x6:Nat),(x6<=100 - Int.toNat (Piece.lo (pc (openFr f (isPc f p)) (Int.toNat p))) /\ ∀ (j:Nat),j < x6->Option.isSome (wholeP (grownF (openFr f (isPc f p)) (Int.toNat p) (99 - (↑j:Int))) 0)=false)->decide (Piece.lo (pc (grownF (openFr f (isPc f p)) (Int.toNat p) (99 - (↑x6:Int))) (Int.toNat p))<=Piece.hi (pc (grownF (openFr f (isPc f p)) (Int.toNat p) (99 - (↑x6:Int))) (Int.toNat p)))=true->(!!Option.isSome (wholeP (grownF (openFr f (isPc f p)) (Int.toNat p) (99 - (↑x6:Int))) 0))=true->Int.toNat p < List.length (Frm.pieces (grownF (openFr f (isPc f p)) (Int.toNat p) (99 - (↑x6:Int)))))
  (o22:smallF f->(!decide (openF f (isPc f p)=0))=false -> ∀ (x6:Nat),(x6<=100 - Int.toNat (Piece.lo (pc (openFr f (isPc f p)) (Int.toNat p))) /\ ∀ (j:Nat),j < x6->Option.isSome (wholeP (grownF (openFr f (isPc f p)) (Int.toNat p) (99 - (↑j:Int))) 0)=false)->decide (Piece.lo (pc (grownF (openFr f (isPc f p)) (Int.toNat p) (99 - (↑x6:Int))) (Int.toNat p))<=Piece.hi (pc (grownF (openFr f (isPc f p)) (Int.toNat p) (99 - (↑x6:Int))) (Int.toNat p)))=true->(!!Option.isSome (wholeP (grownF (openFr f (isPc f p)) (Int.toNat p) (99 - (↑x6:Int))) 0))=true->Piece.hi (pc (grownF (openFr f (isPc f p)) (Int.toNat p) (99 - (↑x6:Int))) (Int.toNat p))=growN f p)
  (o23:smallF f->(!decide (openF f (isPc f p)=0))=false -> ∀ (x6:Nat),(x6<=100 - Int.toNat (Piece.lo (pc (openFr f (isPc f p)) (Int.toNat p))) /\ ∀ (j:Nat),j < x6->Option.isSome (wholeP (grownF (openFr f (isPc f p)) (Int.toNat p) (99 - (↑j:Int))) 0)=false)->decide (Piece.lo (pc (grownF (openFr f (isPc f p)) (Int.toNat p) (99 - (↑x6:Int))) (Int.toNat p))<=Piece.hi (pc (grownF (openFr f (isPc f p)) (Int.toNat p) (99 - (↑x6:Int))) (Int.toNat p)))=true->(!!Option.isSome (wholeP (grownF (openFr f (isPc f p)) (Int.toNat p) (99 - (↑x6:Int))) 0))=true->0=growE f p)
  (o24:smallF f->(!decide (openF f (isPc f p)=0))=false -> ∀ (x6:Nat),(x6<=100 - Int.toNat (Piece.lo (pc (openFr f (isPc f p)) (Int.toNat p))) /\ ∀ (j:Nat),j < x6->Option.isSome (wholeP (grownF (openFr f (isPc f p)) (Int.toNat p) (99 - (↑j:Int))) 0)=false)->decide (Piece.lo (pc (grownF (openFr f (isPc f p)) (Int.toNat p) (99 - (↑x6:Int))) (Int.toNat p))<=Piece.hi (pc (grownF (openFr f (isPc f p)) (Int.toNat p) (99 - (↑x6:Int))) (Int.toNat p)))=true->(!!Option.isSome (wholeP (grownF (openFr f (isPc f p)) (Int.toNat p) (99 - (↑x6:Int))) 0))=false->Int.toNat p < List.length (Frm.pieces (grownF (openFr f (isPc f p)) (Int.toNat p) (99 - (↑x6:Int)))))
  (o25:smallF f->(!decide (openF f (isPc f p)=0))=false -> ∀ (x6:Nat),(x6<=100 - Int.toNat (Piece.lo (pc (openFr f (isPc f p)) (Int.toNat p))) /\ ∀ (j:Nat),j < x6->Option.isSome (wholeP (grownF (openFr f (isPc f p)) (Int.toNat p) (99 - (↑j:Int))) 0)=false)->decide (Piece.lo (pc (grownF (openFr f (isPc f p)) (Int.toNat p) (99 - (↑x6:Int))) (Int.toNat p))<=Piece.hi (pc (grownF (openFr f (isPc f p)) (Int.toNat p) (99 - (↑x6:Int))) (Int.toNat p)))=true->(!!Option.isSome (wholeP (grownF (openFr f (isPc f p)) (Int.toNat p) (99 - (↑x6:Int))) 0))=false->inI (Piece.hi (pc (grownF (openFr f (isPc f p)) (Int.toNat p) (99 - (↑x6:Int))) (Int.toNat p)) - 1))
  (o26:smallF f->(!decide (openF f (isPc f p)=0))=false -> ∀ (x6:Nat),(x6<=100 - Int.toNat (Piece.lo (pc (openFr f (isPc f p)) (Int.toNat p))) /\ ∀ (j:Nat),j < x6->Option.isSome (wholeP (grownF (openFr f (isPc f p)) (Int.toNat p) (99 - (↑j:Int))) 0)=false)->decide (Piece.lo (pc (grownF (openFr f (isPc f p)) (Int.toNat p) (99 - (↑x6:Int))) (Int.toNat p))<=Piece.hi (pc (grownF (openFr f (isPc f p)) (Int.toNat p) (99 - (↑x6:Int))) (Int.toNat p)))=true->(!!Option.isSome (wholeP (grownF (openFr f (isPc f p)) (Int.toNat p) (99 - (↑x6:Int))) 0))=false->Int.toNat p < List.length (Frm.pieces (grownF (openFr f (isPc f p)) (Int.toNat p) (99 - (↑x6:Int)))))
  (o27:smallF f->(!decide (openF f (isPc f p)=0))=false -> ∀ (x6:Nat),(x6<=100 - Int.toNat (Piece.lo (pc (openFr f (isPc f p)) (Int.toNat p))) /\ ∀ (j:Nat),j < x6->Option.isSome (wholeP (grownF (openFr f (isPc f p)) (Int.toNat p) (99 - (↑j:Int))) 0)=false)->decide (Piece.lo (pc (grownF (openFr f (isPc f p)) (Int.toNat p) (99 - (↑x6:Int))) (Int.toNat p))<=Piece.hi (pc (grownF (openFr f (isPc f p)) (Int.toNat p) (99 - (↑x6:Int))) (Int.toNat p)))=true->(!!Option.isSome (wholeP (grownF (openFr f (isPc f p)) (Int.toNat p) (99 - (↑x6:Int))) 0))=false->List.length (Frm.pieces (grownF (openFr f (isPc f p)) (Int.toNat p) (99 - (↑x6:Int))))=List.length (Frm.pieces (openFr f (isPc f p))))
  (o28:smallF f->(!decide (openF f (isPc f p)=0))=false -> ∀ (x6:Nat),(x6<=100 - Int.toNat (Piece.lo (pc (openFr f (isPc f p)) (Int.toNat p))) /\ ∀ (j:Nat),j < x6->Option.isSome (wholeP (grownF (openFr f (isPc f p)) (Int.toNat p) (99 - (↑j:Int))) 0)=false)->decide (Piece.lo (pc (grownF (openFr f (isPc f p)) (Int.toNat p) (99 - (↑x6:Int))) (Int.toNat p))<=Piece.hi (pc (grownF (openFr f (isPc f p)) (Int.toNat p) (99 - (↑x6:Int))) (Int.toNat p)))=true->(!!Option.isSome (wholeP (grownF (openFr f (isPc f p)) (Int.toNat p) (99 - (↑x6:Int))) 0))=false -> ∀ (i24:Nat),i24 < List.length (Frm.pieces (grownF (openFr f (isPc f p)) (Int.toNat p) (99 - (↑x6:Int))))->Decidable.rec (fun (h:¬i24=Int.toNat p)=>cPiece (pc (grownF (openFr f (isPc f p)) (Int.toNat p) (99 - (↑x6:Int))) i24)) (fun (h:i24=Int.toNat p)=>[] ++ ([iv (Piece.lo (pc (grownF (openFr f (isPc f p)) (Int.toNat p) (99 - (↑x6:Int))) (Int.toNat p)))] ++ ([iv (Piece.hi (pc (grownF (openFr f (isPc f p)) (Int.toNat p) (99 - (↑x6:Int))) (Int.toNat p)) - 1)] ++ [iv (Piece.pence (pc (grownF (openFr f (isPc f p)) (Int.toNat p) (99 - (↑x6:Int))) (Int.toNat p)))]))) (instDecidableEqNat i24 (Int.toNat p))=cPiece (pc (grownF (openFr f (isPc f p)) (Int.toNat p) (99 - (↑(x6 + 1):Int))) i24))
  (o29:smallF f->(!decide (openF f (isPc f p)=0))=false -> ∀ (x6:Nat),(x6<=100 - Int.toNat (Piece.lo (pc (openFr f (isPc f p)) (Int.toNat p))) /\ ∀ (j:Nat),j < x6->Option.isSome (wholeP (grownF (openFr f (isPc f p)) (Int.toNat p) (99 - (↑j:Int))) 0)=false)->decide (Piece.lo (pc (grownF (openFr f (isPc f p)) (Int.toNat p) (99 - (↑x6:Int))) (Int.toNat p))<=Piece.hi (pc (grownF (openFr f (isPc f p)) (Int.toNat p) (99 - (↑x6:Int))) (Int.toNat p)))=true->(!!Option.isSome (wholeP (grownF (openFr f (isPc f p)) (Int.toNat p) (99 - (↑x6:Int))) 0))=false->x6 + 1<=100 - Int.toNat (Piece.lo (pc (openFr f (isPc f p)) (Int.toNat p))) /\ ∀ (j:Nat),j < x6 + 1->Option.isSome (wholeP (grownF (openFr f (isPc f p)) (Int.toNat p) (99 - (↑j:Int))) 0)=false)
  (o30:smallF f->(!decide (openF f (isPc f p)=0))=false -> ∀ (x6:Nat),(x6<=100 - Int.toNat (Piece.lo (pc (openFr f (isPc f p)) (Int.toNat p))) /\ ∀ (j:Nat),j < x6->Option.isSome (wholeP (grownF (openFr f (isPc f p)) (Int.toNat p) (99 - (↑j:Int))) 0)=false)->decide (Piece.lo (pc (grownF (openFr f (isPc f p)) (Int.toNat p) (99 - (↑x6:Int))) (Int.toNat p))<=Piece.hi (pc (grownF (openFr f (isPc f p)) (Int.toNat p) (99 - (↑x6:Int))) (Int.toNat p)))=true->(!!Option.isSome (wholeP (grownF (openFr f (isPc f p)) (Int.toNat p) (99 - (↑x6:Int))) 0))=false->100 - (x6 + 1) < 100 - x6)
  (o31:smallF f->(!decide (openF f (isPc f p)=0))=false -> ∀ (x6:Nat),(x6<=100 - Int.toNat (Piece.lo (pc (openFr f (isPc f p)) (Int.toNat p))) /\ ∀ (j:Nat),j < x6->Option.isSome (wholeP (grownF (openFr f (isPc f p)) (Int.toNat p) (99 - (↑j:Int))) 0)=false)->decide (Piece.lo (pc (grownF (openFr f (isPc f p)) (Int.toNat p) (99 - (↑x6:Int))) (Int.toNat p))<=Piece.hi (pc (grownF (openFr f (isPc f p)) (Int.toNat p) (99 - (↑x6:Int))) (Int.toNat p)))=false->0=growN f p)
  (o32:smallF f->(!decide (openF f (isPc f p)=0))=false -> ∀ (x6:Nat),(x6<=100 - Int.toNat (Piece.lo (pc (openFr f (isPc f p)) (Int.toNat p))) /\ ∀ (j:Nat),j < x6->Option.isSome (wholeP (grownF (openFr f (isPc f p)) (Int.toNat p) (99 - (↑j:Int))) 0)=false)->decide (Piece.lo (pc (grownF (openFr f (isPc f p)) (Int.toNat p) (99 - (↑x6:Int))) (Int.toNat p))<=Piece.hi (pc (grownF (openFr f (isPc f p)) (Int.toNat p) (99 - (↑x6:Int))) (Int.toNat p)))=false->3=growE f p) :
  Triple Try.prog 26 (s26 f p):=by
 refine triple_of Try.func26 rfl Try.call26 T0_ok _ rfl rfl rfl rfl (Nat.le_of_ble_eq_true (by kernel_rfl)) (fun _ _ _ _ h=>h) ?_
 intro hpre C hC _ hE
 obtain ⟨P,w0,E0,av,hA,ro,df⟩:=C
 obtain ⟨rfl,rfl,rfl⟩:=hC
 refine swp_seq ?_
 refine zR [1,2] [0] (Ak 3 tv) ?_
 refine swp_seq ?_
 refine zC ([(3,CallSpec.eq (s88 f p) [true,true]),(4,CallSpec.eq (s83 f (isPc f p)) [true,true])]) [1,6,7] [88] (Ak 3 (An (An (An (zr (AV.agg (cFrm f))) (An (zr (iv p)) tv)) (An (t88 (f) (p)) (An (o0 hpre) (Ak 1 (fun (i0:Env)=>tv))))) (An (An (An (zr (AV.agg (cFrm f))) (An (zr (bv (isPc f p))) tv)) (An (t83 (f) (isPc f p)) (An hpre (Ak 1 (fun (i1:Env)=>tv))))) (Ak 6 tv)))) ?_
 refine swp_seq ?_
 refine swp_seq ?_
 refine zR [1,6,7,18] [88] (Ak 2 tv) ?_
 refine zI (!decide (openF f (isPc f p)=0)) (fun y2 => ?_) (fun y2 => ?_)
 ·refine swp_seq ?_
  refine zR [4,5] [] (Ak 3 tv) ?_
  refine swp_ret ?_
  exact zT [] (An (Ak 2 tv) (An (An (An (ci (o1 hpre y2)) (zr nilN)) (An (An (ci (o2 hpre y2)) (zr nilN)) tv)) (An (zr true) (An (zr true) (zr true)))))
 ·refine swp_skip ?_
  refine swp_seq ?_
  refine zC ([(3,CallSpec.eq (c26c f p) [false])]) [1,6] [88,152] (Ak 3 (An (An (An (An (zr 3) (An (zr (List.length (Frm.pieces (openFr f (isPc f p))))) (fun (i3:Nat)=>(fun (y4:i3 < List.length (Frm.pieces (openFr f (isPc f p))))=>(o3 hpre y2 i3 y4))))) tv) (An (t89o (Frm.pieces (openFr f (isPc f p))) (152)) (An (An (o4 hpre y2) (o5 hpre y2)) (Ak 1 (fun (i5:Env)=>tv))))) (Ak 3 tv))) ?_
  refine swp_seq ?_
  refine zR [6,8] [88,152] (Ak 4 (An (An (o6 hpre y2) (o7 hpre y2)) (Ak 2 tv))) ?_
  refine swp_seq ?_
  refine swp_seq ?_
  refine zR [6,8] [88,152] (Ak 3 (An (An (o8 hpre y2) tv) tv)) ?_
  refine swp_block ?_
  refine zL (Hint.ann (h26 f p) [(6,AV.ptr 88 []),(8,AV.vp 152 (Int.toNat p) 3 [PS.fld 0])] [(88,OB.cells 101 [iv (Frm.length (openFr f (isPc f p))),iv (Frm.slack (openFr f (isPc f p))),AV.sl 2 (List.length (Frm.strips (openFr f (isPc f p)))) fun (i:Nat)=>cStrip (stp (openFr f (isPc f p)) i),AV.vec 152,AV.sl 1 (List.length (Frm.columns (openFr f (isPc f p)))) fun (i:Nat)=>[aInts (col (openFr f (isPc f p)) i)]])] 10272) (zE hE [] [(88,.same 88),(152,.same 152)] [] [] (An (An (An (zr (some (Src.same 88))) (zr nilP)) (An (An (zr (some (Src.same 152))) (An (zr (Int.toNat p)) (An (zr 3) (zr ([PS.fld 0]))))) tv)) (An (An (An (zr 101) (An (An (An (zr (iv (Frm.length (openFr f (isPc f p))))) (zr nilN)) (An (An (zr (iv (Frm.slack (openFr f (isPc f p))))) (zr nilN)) (An (An (zr 2) (An (zr (List.length (Frm.strips (openFr f (isPc f p))))) (fun (i7:Nat)=>(fun (y8:i7 < List.length (Frm.strips (openFr f (isPc f p))))=>(zr (cStrip (stp (openFr f (isPc f p)) i7))))))) (An (zr (some (Src.same 152))) (An (An (zr 1) (An (zr (List.length (Frm.columns (openFr f (isPc f p))))) (fun (i9:Nat)=>(fun (y10:i9 < List.length (Frm.columns (openFr f (isPc f p))))=>(zr ([aInts (col (openFr f (isPc f p)) i9)])))))) tv))))) (zr true))) (An (An (zr 46) (An (zr 3) (An (zr (List.length (Frm.pieces (openFr f (isPc f p))))) (fun (i11:Nat)=>(fun (y12:i11 < List.length (Frm.pieces (openFr f (isPc f p))))=>(o9 hpre y2 i11 y12)))))) tv)) (An (zr true) (zr true))))) (o10 hpre y2) (fun (x6:Nat) hx6 => ?_)
  refine swp_seq ?_
  refine swp_seq ?_
  refine zR [6,8,43] [88,152] (Ak 3 (An (An (o11 hpre y2 x6 hx6) tv) (Ak 3 (An (An (o12 hpre y2 x6 hx6) tv) (Ak 1 tv))))) ?_
  refine zI (decide (Piece.lo (pc (grownF (openFr f (isPc f p)) (Int.toNat p) (99 - (↑x6:Int))) (Int.toNat p))<=Piece.hi (pc (grownF (openFr f (isPc f p)) (Int.toNat p) (99 - (↑x6:Int))) (Int.toNat p)))) (fun y13 => ?_) (fun y13 => ?_)
  ·refine swp_skip ?_
   refine swp_seq ?_
   refine swp_block ?_
   refine swp_seq ?_
   refine zC ([(1,CallSpec.eq (c26w f p x6) [false,true])]) [6,8,53] [88,152] (Ak 1 (An (An (An (An (ci (o13 hpre y2 x6 hx6 y13)) (An (ci (o14 hpre y2 x6 hx6 y13)) (An (An (zr 2) (An (o15 hpre y2 x6 hx6 y13) (fun (i14:Nat)=>(fun (y15:i14 < List.length (Frm.strips (grownF (openFr f (isPc f p)) (Int.toNat p) (99 - (↑x6:Int)))))=>(o16 hpre y2 x6 hx6 y13 i14 y15))))) (An (zr (AV.vec 152)) (An (An (zr 1) (An (o17 hpre y2 x6 hx6 y13) (fun (i16:Nat)=>(fun (y17:i16 < List.length (Frm.columns (grownF (openFr f (isPc f p)) (Int.toNat p) (99 - (↑x6:Int)))))=>(o18 hpre y2 x6 hx6 y13 i16 y17))))) tv))))) (An (zr (iv 0)) tv)) (An (lendT 46 152 0 (some 3) (t90w (grownF (openFr f (isPc f p)) (Int.toNat p) (99 - (↑x6:Int))) (0))) (An (An (o19 hpre y2 x6 hx6 y13) (An (by decide:Int.ofNat 0<=Int.ofNat 0) (by decide:Int.ofNat 0<=Int.ofNat 1000))) (An (An (o20 hpre y2 x6 hx6 y13) tv) (fun (i18:Env)=>tv))))) (Ak 1 tv))) ?_
   refine zI (!!Option.isSome (wholeP (grownF (openFr f (isPc f p)) (Int.toNat p) (99 - (↑x6:Int))) 0)) (fun y19 => ?_) (fun y19 => ?_)
   ·refine swp_seq ?_
    refine zR [4,5] [] (Ak 3 (An (An (o21 hpre y2 x6 hx6 y13 y19) tv) (Ak 2 tv))) ?_
    refine swp_ret ?_
    exact zT [] (An (Ak 2 tv) (An (An (An (ci (o22 hpre y2 x6 hx6 y13 y19)) (zr nilN)) (An (An (ci (o23 hpre y2 x6 hx6 y13 y19)) (zr nilN)) tv)) (An (zr true) (An (zr true) (zr true)))))
   ·refine swp_skip ?_
    refine zR [6,8] [88,152] (Ak 3 (An (An (o24 hpre y2 x6 hx6 y13 y19) tv) (An (o25 hpre y2 x6 hx6 y13 y19) (Ak 2 (An (An (o26 hpre y2 x6 hx6 y13 y19) tv) tv))))) ?_
    exact zn (zE hE [] [(88,.same 88),(152,.same 152)] [] [] (An (An (An (zr (some (Src.same 88))) (zr nilP)) (An (An (zr (some (Src.same 152))) (An (zr (Int.toNat p)) (An (zr 3) (zr ([PS.fld 0]))))) tv)) (An (An (An (zr 101) (An (An (An (zr (iv (Frm.length (openFr f (isPc f p))))) (zr nilN)) (An (An (zr (iv (Frm.slack (openFr f (isPc f p))))) (zr nilN)) (An (An (zr 2) (An (zr (List.length (Frm.strips (openFr f (isPc f p))))) (fun (i20:Nat)=>(fun (y21:i20 < List.length (Frm.strips (openFr f (isPc f p))))=>(zr (cStrip (stp (openFr f (isPc f p)) i20))))))) (An (zr (some (Src.same 152))) (An (An (zr 1) (An (zr (List.length (Frm.columns (openFr f (isPc f p))))) (fun (i22:Nat)=>(fun (y23:i22 < List.length (Frm.columns (openFr f (isPc f p))))=>(zr ([aInts (col (openFr f (isPc f p)) i22)])))))) tv))))) (zr true))) (An (An (zr 46) (An (zr 3) (An (o27 hpre y2 x6 hx6 y13 y19) (fun (i24:Nat)=>(fun (y25:i24 < List.length (Frm.pieces (grownF (openFr f (isPc f p)) (Int.toNat p) (99 - (↑x6:Int)))))=>(o28 hpre y2 x6 hx6 y13 y19 i24 y25)))))) tv)) (An (zr true) (zr true))))) (o29 hpre y2 x6 hx6 y13 y19) (o30 hpre y2 x6 hx6 y13 y19)
  ·refine swp_exit ?_
   refine swp_seq ?_
   refine zR [4,5] [] (Ak 2 tv) ?_
   refine swp_ret ?_
   exact zT [] (An (Ak 2 tv) (An (An (An (ci (o31 hpre y2 x6 hx6 y13)) (zr nilN)) (An (An (ci (o32 hpre y2 x6 hx6 y13)) (zr nilN)) tv)) (An (zr true) (An (zr true) (zr true)))))
theorem t26 (f:Frm) (p:Int):Triple Try.prog 26 (s26 f p):=by
 apply w26
 case o0=>exact fun hp=>small_fits hp
 all_goals (intro hp h)
 case o1=>have e:=gate_bad h; simp [growN,growG,e]
 case o2=>have e:=gate_bad h; simp [growE,growG,e]
 all_goals (obtain ⟨e1,e0,e2,e3,e4⟩:=gate_ok h; (try rw [e2]))
 all_goals (have hc:=isPc_get e0; have hn:p.toNat < f.pieces.length:=by omega)
 all_goals (have hpc:=e3.piece p.toNat hn; have hg:growG f p=true:=by simp [growG,e1,e0])
 case o3=>intro i _; rfl
 case o4=>omega
 case o5=>have:=e3.pieces; omega
 case o6=>exact hc.1
 case o7=>exact hc.2
 case o8=>exact hn
 case o9 =>
  intro i hi
  rw [grown_pc _ hn]
  refine rec_ei (fun h => ?_) (fun h => ?_)
  ·rw [if_neg h]; rfl
  ·rw [if_pos h]; rfl
 case o10=>exact ⟨Nat.zero_le _,fun j hj=>absurd hj (Nat.not_lt_zero _)⟩
 all_goals (intro x hx; obtain ⟨h1,h2⟩:=hx)
 all_goals (try rw [grown_len])
 all_goals (try exact hn)
 all_goals (intro hl; rw [grown_pc _ hn,if_pos rfl] at hl; try simp only [decide_eq_true_eq,decide_eq_false_iff_not] at hl)
 case o31 | o32 =>
  have hk:growK f p.toNat=none:=grow_none (fun j hj=>h2 j (by omega))
  first | (simp [growN,hg,hk]; done) | (simp [growE,hg,hk]; done)
 all_goals (have hx1:x < 100 - (pc f p.toNat).lo.toNat:=by omega)
 all_goals (try (first | rfl | (intro i _; rfl)))
 case o19=>exact grown_sound e3 hn (by omega) (by omega)
 all_goals (intro hw)
 case o21 | o24 | o26=>(try rw [grown_len]); exact hn
 case o27=>first | rfl | rw [grown_len]
 case o22 =>
  have hk:=grow_hit hx1 h2 (by simpa using hw)
  rw [grown_pc _ hn,if_pos rfl]; simp [growN,hg,hk]
 case o23 =>
  have hk:=grow_hit hx1 h2 (by simpa using hw)
  simp [growE,hg,hk]
 case o25=>rw [grown_pc _ hn,if_pos rfl]; exact ⟨by show _<=99 - (x:Int) - 1; omega,by show 99 - (x:Int) - 1<=_; omega⟩
 case o28 =>
  intro i hi
  rw [grown_pc _ hn,grown_pc _ hn,grown_pc _ hn]
  refine rec_ei (fun h => ?_) (fun h => ?_)
  ·rw [if_neg h,if_neg h]
  ·rw [if_pos h,if_pos rfl]; show [iv _,iv (99 - (x:Int) - 1),iv _] = [iv _,iv (99 - ((x + 1:Nat):Int)),iv _]; rw [show (99 - (x:Int) - 1)=99 - ((x + 1:Nat):Int) by omega]
 case o29=>exact ⟨by omega,lt_succ_cases h2 (by simpa using hw)⟩
 case o30=>omega
end Go.Ab
namespace Go.Sh
open Go.Ab
def setsP:List Int->List (List Int)
 | []=>[[]]
 | a :: ws=>(List.range (a.toNat + 1)).flatMap fun (n:Nat)=>(setsP ws).map (((n:Nat):Int) :: ·)
theorem range_mul {α:Type} (g:Nat->α) (P:Nat):∀ m,(List.range (m * P)).map g=(List.range m).flatMap fun n=>(List.range P).map fun r=>g (n * P + r):=by
 intro m
 induction m with
 | zero=>simp
 | succ m ih=>rw [Nat.succ_mul,List.range_add,List.map_append,ih,List.range_succ,List.flatMap_append,List.map_map]; simp
theorem setsP_eq:∀ left:List Int,setsP left=(List.range (prodL left)).map (setN left):=by
 intro left
 induction left with
 | nil=>rfl
 | cons a ws ih =>
  show _=(List.range ((a.toNat + 1) * prodL ws)).map _
  rw [range_mul,setsP,ih]
  congr 1
  funext n
  rw [List.map_map]
  refine List.map_congr_left fun r hr => ?_
  have h:=List.mem_range.1 hr
  show _=((((n * prodL ws + r) / prodL ws:Nat):Int) :: setN ws ((n * prodL ws + r) % prodL ws))
  rw [Nat.mul_comm,Nat.mul_add_div (prodL_pos ws),Nat.div_eq_of_lt h,Nat.mul_add_mod,Nat.mod_eq_of_lt h]; rfl
theorem mem_setsP:∀ {left s:List Int},(∀ q,q < left.length->0<=left.getD q 0)->(s ∈ setsP left ↔ s.length=left.length /\ ∀ q,q < left.length->0<=s.getD q 0/\s.getD q 0<=left.getD q 0):=by
 intro left
 induction left with
 | nil =>
  intro s _
  simp only [setsP,List.mem_singleton,List.length_nil]
  constructor
  ·rintro rfl; exact ⟨rfl,fun q hq=>absurd hq (Nat.not_lt_zero _)⟩
  ·intro h; exact List.eq_nil_of_length_eq_zero h.1
 | cons a ws ih =>
  intro s h
  have h0:0<=a:=h 0 (Nat.succ_pos _)
  have ih':=fun s=>ih (s:=s) (fun q hq=>h (q + 1) (Nat.succ_lt_succ hq))
  simp only [setsP,List.mem_flatMap,List.mem_map,List.mem_range,ih']
  constructor
  ·rintro ⟨n,hn,t,⟨h1,h2⟩,rfl⟩
   refine ⟨by rw [List.length_cons,List.length_cons,h1],fun q hq => ?_⟩
   cases q with
   | zero=>show 0<=(n:Int)/\(n:Int)<=a; omega
   | succ q=>exact h2 q (Nat.lt_of_succ_lt_succ hq)
  ·rintro ⟨h1,h2⟩
   match s,h1 with
   | x :: t,h1 =>
    have h3:0<=x/\x<=a:=h2 0 (Nat.succ_pos _)
    refine ⟨x.toNat,by omega,t,⟨Nat.succ.inj h1,fun q hq=>h2 (q + 1) (Nat.succ_lt_succ hq)⟩,?_⟩
    rw [show ((x.toNat:Nat):Int)=x by omega]
def manyL:List (List Int)->Int
 | []=>0
 | s :: l=>sumS s + manyL l
def laysR (f:Frm):List Span->List Int->List (List (List Int))
 | [],_=>[[]]
 | r :: rs,left=>(setsP left).flatMap fun s=>if within (pointsP f s) r.lo r.hi then (laysR f rs (restL left s)).map (s :: ·) else []
def IsLay (f:Frm):List Span->List Int->List (List Int)->Prop
 | [],_,[]=>True
 | r :: rs,left,s :: l=>s ∈ setsP left/\within (pointsP f s) r.lo r.hi=true/\IsLay f rs (restL left s) l
 | _,_,_=>False
theorem mem_laysR {f:Frm}:∀ {rooms:List Span} {left:List Int} {l:List (List Int)},l ∈ laysR f rooms left ↔ IsLay f rooms left l:=by
 intro rooms
 induction rooms with
 | nil =>
  intro left l
  cases l with
  | nil=>simp [laysR,IsLay]
  | cons s l=>simp [laysR,IsLay]
 | cons r rs ih =>
  intro left l
  rw [laysR,List.mem_flatMap]
  constructor
  ·rintro ⟨s,hs,h⟩
   split at h
   ·rename_i hw
    obtain ⟨l',h1,rfl⟩:=List.mem_map.1 h
    exact ⟨hs,hw,ih.1 h1⟩
   ·cases h
  ·intro h
   match l,h with
   | s :: l,⟨h1,h2,h3⟩ =>
    refine ⟨s,h1,?_⟩
    rw [if_pos h2]
    exact List.mem_map.2 ⟨l,ih.2 h3,rfl⟩
theorem snoc_ind {α:Type} {P:List α->Prop} (h0:P []) (h1:∀ l x,P l->P (l ++ [x])) (l:List α):P l:=by
 have h:∀ m:List α,P m.reverse:=by
  intro m
  induction m with
  | nil=>exact h0
  | cons x m ih=>rw [List.reverse_cons]; exact h1 _ _ ih
 have:=h l.reverse
 rwa [List.reverse_reverse] at this
def fmS (b:Lay) (l:List (List Int)):Lay:=if betterL (manyL l) b then some (l,manyL l) else b
def fmL (ls:List (List (List Int))):Lay:=ls.foldl fmS none
theorem fm_snoc (ls:List (List (List Int))) (l:List (List Int)):fmL (ls ++ [l])=fmS (fmL ls) l:=by unfold fmL; rw [List.foldl_append]; rfl
def orL (a b:Lay):Lay:=match b with | none=>a | some x=>if betterL x.2 a then some x else a
theorem fm_append (a b:List (List (List Int))):fmL (a ++ b)=orL (fmL a) (fmL b):=by
 induction b using snoc_ind with
 | h0=>rw [List.append_nil]; rfl
 | h1 b x ih =>
  rw [← List.append_assoc,fm_snoc,fm_snoc,ih]
  generalize fmL a=p
  generalize fmL b=q
  cases q with
  | none=>rfl
  | some q =>
   cases p with
   | none =>
    by_cases h:manyL x < q.2 <;> simp [orL,fmS,betterL,h]
   | some p =>
    by_cases h1:q.2 < p.2
    ·by_cases h2:manyL x < q.2
     ·have h3:manyL x < p.2:=by omega
      simp [orL,fmS,betterL,h1,h2,h3]
     ·simp [orL,fmS,betterL,h1,h2]
    ·by_cases h2:manyL x < p.2
     ·have h3:manyL x < q.2:=by omega
      simp [orL,fmS,betterL,h1,h2,h3]
     ·by_cases h3:manyL x < q.2 <;> simp [orL,fmS,betterL,h1,h2,h3]
theorem fm_cons (s:List Int) (ls:List (List (List Int))):fmL (ls.map (s :: ·))=(fmL ls).map fun x=>(s :: x.1,sumS s + x.2):=by
 induction ls using snoc_ind with
 | h0=>rfl
 | h1 ls x ih =>
  rw [List.map_append,List.map_cons,List.map_nil,fm_snoc,fm_snoc,ih]
  cases fmL ls with
  | none=>rfl
  | some y =>
   by_cases h:manyL x < y.2
   ·have h2:sumS s + manyL x < sumS s + y.2:=by omega
    simp [fmS,betterL,manyL,h,h2]
   ·have h2:¬ sumS s + manyL x < sumS s + y.2:=by omega
    simp [fmS,betterL,manyL,h,h2]
theorem lock_fm (f:Frm):∀ (rooms:List Span) (left:List Int),lockP f rooms left=fmL (laysR f rooms left):=by
 intro rooms
 induction rooms with
 | nil=>intro left; rfl
 | cons r rs ih =>
  intro left
  rw [lockP,laysR,setsP_eq]
  generalize prodL left=n
  induction n with
  | zero=>rfl
  | succ n ihn =>
   rw [List.range_succ,List.foldl_append,ihn,List.map_append,List.flatMap_append,fm_append]
   generalize fmL _=b
   simp only [List.foldl_cons,List.foldl_nil,List.map_cons,List.map_nil,List.flatMap_cons,List.flatMap_nil,List.append_nil]
   unfold stepL
   split
   ·rw [ih,fm_cons]
    cases fmL (laysR f rs (restL left (setN left n))) with
    | none=>rfl
    | some x=>rfl
   ·rfl
theorem fm_none:∀ {ls:List (List (List Int))},fmL ls=none->ls = []:=by
 intro ls
 induction ls using snoc_ind with
 | h0=>intro _; rfl
 | h1 ls z _ =>
  intro h
  rw [fm_snoc] at h
  cases e2:fmL ls with
  | none=>rw [e2] at h; cases h
  | some w=>rw [e2] at h; simp only [fmS] at h; split at h <;> cases h
end Go.Sh
namespace Go.Sh
open Go.Ab
def usedL:List (List Int)->Nat->Int
 | [],_=>0
 | s :: l,q=>s.getD q 0 + usedL l q
theorem usedL_pos:∀ {l:List (List Int)} {q:Nat},(∀ i,i < l.length->0<=(l.getD i []).getD q 0)->0<=usedL l q:=by
 intro l
 induction l with
 | nil=>intro q _; exact Int.le_refl _
 | cons s l ih =>
  intro q h
  have h0:0<=s.getD q 0:=h 0 (Nat.succ_pos _)
  have h1:=ih (q:=q) (fun i hi=>h (i + 1) (Nat.succ_lt_succ hi))
  show 0<=s.getD q 0 + usedL l q
  omega
theorem manyL_append (a b:List (List Int)):manyL (a ++ b)=manyL a + manyL b:=by
 induction a with
 | nil=>show manyL b=0 + manyL b; omega
 | cons s a ih=>show sumS s + manyL (a ++ b)=sumS s + manyL a + manyL b; omega
theorem isLay_iff {f:Frm}:∀ {rooms:List Span} {left:List Int} {l:List (List Int)},(∀ q,q < left.length->0<=left.getD q 0)->(IsLay f rooms left l ↔ l.length=rooms.length ∧
  (∀ i,i < rooms.length->(l.getD i []).length=left.length/\(∀ q,q < left.length->0<=(l.getD i []).getD q 0)/\within (pointsP f (l.getD i [])) (rooms.getD i ⟨0,0⟩).lo (rooms.getD i ⟨0,0⟩).hi=true) ∧
  ∀ q,q < left.length->usedL l q<=left.getD q 0):=by
 intro rooms
 induction rooms with
 | nil =>
  intro left l h
  cases l with
  | nil=>exact ⟨fun _=>⟨rfl,fun i hi=>absurd hi (Nat.not_lt_zero _),fun q hq=>h q hq⟩,fun _=>True.intro⟩
  | cons s l=>exact ⟨fun h=>h.elim,fun h=>absurd h.1 (by simp)⟩
 | cons r rs ih =>
  intro left l h
  cases l with
  | nil=>exact ⟨fun h=>h.elim,fun h=>absurd h.1 (by simp)⟩
  | cons s l =>
   simp only [IsLay]
   rw [mem_setsP h]
   constructor
   ·rintro ⟨⟨h1,h2⟩,h3,h4⟩
    have hr:∀ q,q < (restL left s).length->0<=(restL left s).getD q 0:=by
     intro q hq
     rw [restL_len] at hq
     rw [restL_get hq]
     have:=h2 q hq
     omega
    obtain ⟨g1,g2,g3⟩:=(ih hr).1 h4
    rw [restL_len] at g2 g3
    refine ⟨by rw [List.length_cons,List.length_cons,g1],fun i hi => ?_,fun q hq => ?_⟩
    ·cases i with
     | zero=>exact ⟨h1,fun q hq=>(h2 q hq).1,h3⟩
     | succ i=>exact g2 i (Nat.lt_of_succ_lt_succ hi)
    ·have:=g3 q hq
     rw [restL_get hq] at this
     show s.getD q 0 + usedL l q<=_
     omega
   ·rintro ⟨h1,h2,h3⟩
    have h1':l.length=rs.length:=Nat.succ.inj h1
    have h0:=h2 0 (Nat.succ_pos _)
    have hu:∀ q,q < left.length->0<=usedL l q:=fun q hq=>usedL_pos (fun i hi=>(h2 (i + 1) (Nat.succ_lt_succ (by omega))).2.1 q hq)
    have h3':∀ q,q < left.length->s.getD q 0 + usedL l q<=left.getD q 0:=h3
    have hs:∀ q,q < left.length->0<=s.getD q 0/\s.getD q 0<=left.getD q 0:=fun q hq=>by
     have a:=h0.2.1 q hq
     have b:=hu q hq
     have c:=h3' q hq
     have a':0<=s.getD q 0:=a
     omega
    refine ⟨⟨h0.1,hs⟩,h0.2.2,?_⟩
    have hr:∀ q,q < (restL left s).length->0<=(restL left s).getD q 0:=by
     intro q hq
     rw [restL_len] at hq
     rw [restL_get hq]
     have:=hs q hq
     omega
    refine (ih hr).2 ⟨h1',fun i hi => ?_,fun q hq => ?_⟩
    ·rw [restL_len]; exact h2 (i + 1) (Nat.succ_lt_succ hi)
    ·rw [restL_len] at hq
     rw [restL_get hq]
     have:=h3' q hq
     omega
def LayF (f:Frm) (w:Int) (l:List (List Int)):Prop:=IsLay f (roomsTo f w f.columns.length) (stockTo f f.strips.length) l
theorem rooms_get {f:Frm} {w:Int} {n i:Nat} (h:i < n):(roomsTo f w n).getD i ⟨0,0⟩=roomP f (highP f (delW (col f i) (bitP w))):=by
 rw [getD_lt _ _ (by rw [rooms_len]; exact h)]; unfold roomsTo; rw [List.getElem_map,List.getElem_range]
def sureH (f:Frm) (s:Span) (n:Int):Prop:=f.length - f.slack<=s.lo + n/\s.hi + n<=f.length
theorem within_room {f:Frm} {s:Span} {n:Int} (h:0<=n):within n (roomP f s).lo (roomP f s).hi=true ↔ sureH f s n:=by
 rw [within_iff]; unfold roomP sureH; simp only; omega
theorem pts_pos {f:Frm} (hs:Sound f) {s:List Int} (h1:s.length=f.strips.length) (h2:∀ q,q < f.strips.length->0<=s.getD q 0):0<=pointsP f s:=by
 unfold pointsP
 have:∀ k,k<=s.length->0<=ptTo f s k:=by
  intro k
  induction k with
  | zero=>intro _; exact Int.le_refl 0
  | succ k ih =>
   intro hk
   rw [pt_succ]
   have:=ih (by omega)
   have h4:=hs.strip k (by omega)
   have h3:0<=s.getD k 0 * (stp f k).thick:=Int.mul_nonneg (h2 k (by omega)) (by omega)
   omega
 exact this _ (Nat.le_refl _)
theorem layF_iff {f:Frm} (hs:Sound f) {w:Int} {l:List (List Int)}:LayF f w l ↔ l.length=f.columns.length ∧
  (∀ i,i < f.columns.length->(l.getD i []).length=f.strips.length/\(∀ q,q < f.strips.length->0<=(l.getD i []).getD q 0)/\sureH f (highP f (delW (col f i) (bitP w))) (pointsP f (l.getD i []))) ∧
  ∀ q,q < f.strips.length->usedL l q<=(stp f q).many:=by
 unfold LayF
 rw [isLay_iff (stock_good hs).nonneg,rooms_len,stock_len]
 constructor
 ·rintro ⟨h1,h2,h3⟩
  refine ⟨h1,fun i hi => ?_,fun q hq=>by rw [← stock_get hq]; exact h3 q hq⟩
  obtain ⟨a,b,c⟩:=h2 i hi
  refine ⟨a,b,?_⟩
  rw [rooms_get hi] at c
  exact (within_room (pts_pos hs a b)).1 c
 ·rintro ⟨h1,h2,h3⟩
  refine ⟨h1,fun i hi => ?_,fun q hq=>by rw [stock_get hq]; exact h3 q hq⟩
  obtain ⟨a,b,c⟩:=h2 i hi
  refine ⟨a,b,?_⟩
  rw [rooms_get hi]
  exact (within_room (pts_pos hs a b)).2 c
end Go.Sh
namespace Go.Sh
open Go.Ab
theorem bit_zero (p:Int):bitP 0 p=false:=by
 unfold bitP; rw [Int.zero_ediv]; rfl
theorem del_zero (l:List Int):delW l (bitP 0)=l:=by
 unfold delW; rw [List.filter_eq_self]; intro p _; rw [bit_zero]; rfl
end Go.Sh
namespace Go.Sh
open Go.Ab
def laysC (f:Frm):Nat->List Int->List (List (List Int))
 | 0,_=>[[]]
 | m + 1,left=>(setsP left).flatMap fun s=>if sureP f (f.columns.length - (m + 1)) (pointsP f s) then (laysC f m (restL left s)).map (s :: ·) else []
theorem good_mem {f:Frm} {left s:List Int} (h:GoodLeft f left) (hs:s ∈ setsP left):∃ i,i < prodL left/\s=setN left i:=by
 rw [setsP_eq] at hs
 obtain ⟨i,hi,e⟩:=List.mem_map.1 hs
 exact ⟨i,List.mem_range.1 hi,e.symm⟩
theorem sure_room {f:Frm} (hs:Sound f) (c:Nat) {n:Int} (hn:0<=n):sureP f c n=within n (roomP f (highP f (col f c))).lo (roomP f (highP f (col f c))).hi:=by
 rw [Bool.eq_iff_iff,within_room hn]
 have h:=high_bound' hs (col_good hs c)
 have h2:=hs.slack
 unfold sureP lockedAt sureH
 rw [Bool.and_eq_true,within_iff,within_iff]
 omega
theorem flatMap_congr' {α β:Type} {f g:α->List β}:∀ {l:List α},(∀ x,x ∈ l->f x=g x)->l.flatMap f=l.flatMap g:=by
 intro l
 induction l with
 | nil=>intro _; rfl
 | cons x l ih =>
  intro h
  rw [List.flatMap_cons,List.flatMap_cons,h x (by simp),ih (fun y hy=>h y (by simp [hy]))]
theorem laysC_eq {f:Frm} (hs:Sound f):∀ (m:Nat) (left:List Int),m<=f.columns.length->GoodLeft f left->laysC f m left=laysR f ((roomsTo f 0 f.columns.length).drop (f.columns.length - m)) left:=by
 intro m
 induction m with
 | zero=>intro left _ _; rw [Nat.sub_zero,List.drop_of_length_le (by rw [rooms_len]; exact Nat.le_refl _)]; rfl
 | succ m ih =>
  intro left hm hl
  have hc:f.columns.length - (m + 1) < f.columns.length:=by omega
  rw [drop_cons ⟨0,0⟩ (by rw [rooms_len]; exact hc),rooms_get hc,del_zero,laysC,laysR]
  refine flatMap_congr' fun s hs' => ?_
  obtain ⟨i,hi,rfl⟩:=good_mem hl hs'
  rw [sure_room hs _ (pts_bound hs (hl.isSet hi)).1,ih _ (by omega) (hl.rest hi),show f.columns.length - (m + 1) + 1=f.columns.length - m by omega]
theorem laysC_all {f:Frm} (hs:Sound f):laysC f f.columns.length (stockTo f f.strips.length)=laysR f (roomsTo f 0 f.columns.length) (stockTo f f.strips.length):=by
 rw [laysC_eq hs _ _ (Nat.le_refl _) (stock_good hs),Nat.sub_self]; rfl
theorem whole_lays {f:Frm} (hs:Sound f):wholeP f 0=fmL (laysC f f.columns.length (stockTo f f.strips.length)):=by
 rw [laysC_all hs]; unfold wholeP; rw [lock_fm]
theorem fm_isSome (ls:List (List (List Int))):(fmL ls).isSome=decide ((ls.length:Int) > 0):=by
 cases e:fmL ls with
 | none=>rw [fm_none e]; rfl
 | some x =>
  cases ls with
  | nil=>cases e
  | cons y ls=>simp
theorem laysC_len {f:Frm} (hs:Sound f):∀ (m:Nat) (left:List Int),GoodLeft f left->prodL left<=30->(laysC f m left).length<=30 ^ m:=by
 intro m
 induction m with
 | zero=>intro left _ _; exact Nat.le_refl _
 | succ m ih =>
  intro left hl hp
  rw [laysC]
  have h1:=flatMap_len (fun s=>if sureP f (f.columns.length - (m + 1)) (pointsP f s) then (laysC f m (restL left s)).map (s :: ·) else []) (30 ^ m) (setsP left) (fun s hs'=>by
   obtain ⟨i,hi,rfl⟩:=good_mem hl hs'
   split
   ·rw [List.length_map]
    refine ih _ (hl.rest hi) (Nat.le_trans ?_ hp)
    have:∀ (a b:List Int),a.length=b.length->(∀ q,q < a.length->a.getD q 0<=b.getD q 0)->prodL a<=prodL b:=by
     intro a
     induction a with
     | nil=>intro b h _; rw [List.eq_nil_of_length_eq_zero h.symm]; exact Nat.le_refl _
     | cons x a iha =>
      intro b h h2
      match b,h,h2 with
      | y :: b,h,h2 =>
       have h0:x<=y:=h2 0 (Nat.succ_pos _)
       exact Nat.mul_le_mul (by omega) (iha b (Nat.succ.inj h) (fun q hq=>h2 (q + 1) (Nat.succ_lt_succ hq)))
    refine this _ _ (restL_len _ _) (fun q hq => ?_)
    rw [restL_len] at hq
    rw [restL_get hq]
    have:=hl.set hi q hq
    omega
   ·exact Nat.zero_le _)
  have h2:(setsP left).length=prodL left:=by rw [setsP_eq,List.length_map,List.length_range]
  rw [h2] at h1
  exact Nat.le_trans h1 (by rw [Nat.pow_succ,Nat.mul_comm]; exact Nat.mul_le_mul_left _ hp)
end Go.Sh
namespace Go.Sh
open Go.Ab
structure AsGood (f o:Frm):Prop where
 strips:o.strips.length=f.strips.length
 thick:∀ i,(stp o i).thick=(stp f i).thick
 many:∀ i,i < f.strips.length->(stp f i).many<=(stp o i).many
 columns:o.columns=f.columns
 length:o.length=f.length
 slack:f.slack<=o.slack
 pieces:o.pieces.length=f.pieces.length
 high:∀ i,(pc f i).lo<=(pc o i).lo/\(pc o i).hi<=(pc f i).hi
 pence:∀ i,(pc o i).pence=(pc f i).pence
end Go.Sh
namespace Go.Sh
open Go.Ab
variable {f:Frm}
end Go.Sh
namespace Go.Sh
structure Plc where
 column:Int
 set:List Int
 one:Int
 other:Int
def stockedF (f:Frm) (k:Nat) (m:Int):Frm:={ f with strips:=f.strips.set k { stp f k with many:=m } }
def exP:Frm:=⟨60,2,[⟨5,2⟩,⟨3,2⟩,⟨18,1⟩],[⟨20,21,9⟩,⟨30,30,5⟩,⟨40,41,7⟩,⟨12,13,4⟩],[[0,1],[2,3]]⟩
def exO:Frm:=stockedF exP 1 3
end Go.Sh
namespace Go.En
open Go Go.Ab Go.Sh
def cPlc (x:Plc):List AV:=[iv x.column,aInts x.set,iv x.one,iv x.other]
abbrev vPlc (x:Plc):AV := .agg (cPlc x)
end Go.En
namespace Go.Ab
open Go Go.RowKit Go.Proofs Go.Sh Go.En
def ou31 (f:Frm):OutSpec:={ args:=[vFrm f],pre:=smallF f,res := .agg [iv f.length,iv f.slack,.vec 0,.vec 1,.vec 2],hout:=[(0,.vec 65 2 f.strips.length (fun i=>cStrip (stp f i))),(1,.vec 46 3 f.pieces.length (fun i=>cPiece (pc f i))),(2,.vec 27 1 f.columns.length (fun i=>[aInts (col f i)]))] }
def h31 (f:Frm):Hint:={ X:=Nat,M:=fun i=>[(4,iv i)],H:=fun i=>[(120,.cells 26 [iv f.length,iv f.slack,.vec 72,.vec 104,.vec 5000]),(5000,.vec 27 1 i (fun k=>[aInts (col f k)]))],I:=fun i=>i<=f.columns.length,mu:=fun i=>f.columns.length - i,x0:=(0:Nat),nx:=fun i=>i + 1 }
def s31o (f:Frm) (id:Nat):CallSpec:=(ou31 f).at [(0,id),(1,id + 1),(2,id + 2)]
def s49 (f:Frm) (k m:Int):CallSpec:={ args:=[vFrm f,iv k,iv m],res:=vFrm (stockedF f k.toNat m),pre:=smallF f/\0<=k/\k < f.strips.length }
def c49 (f:Frm) (k m:Int) (id:Nat):CallSpec:=s31o f id
def s82:CallSpec:={ args:=[],res := .tup [vFrm exP,vFrm exO] }
def c82:CallSpec:=s49 exP 1 3
def s82o (f o:Frm):CallSpec:={ args:=[],res := .tup [vFrm f,vFrm o],pre:=f=exP/\o=exO }
def sw20 (f o:Frm):CallSpec:={ args:=[],res:=bv true,pre:=f=exP/\o=exO }
def c20a (f o:Frm):CallSpec:=s82o f o
def c20b (f o:Frm):CallSpec:=s36 o 0 [2,0,0]
def c20c (f o:Frm):CallSpec:=s40 (refuseL f) [3]
def s20:CallSpec:={ args:=[],res:=bv true }
def s3 (f:Frm) (x:Plc):CallSpec:={ args:=[vFrm f,vPlc x],res:=bv true,pre:=fitsF f/\x.set.length<=big }
end Go.Ab
namespace Go.Ab
open Go Go.RowKit Go.Proofs Go.Sh Go.En
theorem wo31 (f:Frm)
  (o0:smallF f->0 + List.length (Frm.strips f)<=65536)
  (o1:smallF f->0 + List.length (Frm.pieces f)<=65536)
  (o2:smallF f->0=(↑0:Int))
  (o3:smallF f->0<=List.length (Frm.columns f))
  (o4:smallF f -> ∀ (x0:Nat),x0<=List.length (Frm.columns f)->decide ((↑x0:Int) < (↑(List.length (Frm.columns f)):Int))=true->0<=(↑x0:Int))
  (o5:smallF f -> ∀ (x0:Nat),x0<=List.length (Frm.columns f)->decide ((↑x0:Int) < (↑(List.length (Frm.columns f)):Int))=true->(↑x0:Int) < (↑(List.length (Frm.columns f)):Int))
  (o6:smallF f -> ∀ (x0:Nat),x0<=List.length (Frm.columns f)->decide ((↑x0:Int) < (↑(List.length (Frm.columns f)):Int))=true->0 + List.length (col f x0)<=65536)
  (o7:smallF f -> ∀ (x0:Nat),x0<=List.length (Frm.columns f)->decide ((↑x0:Int) < (↑(List.length (Frm.columns f)):Int))=true->x0 + 1<=65536)
  (o8:smallF f -> ∀ (x0:Nat),x0<=List.length (Frm.columns f)->decide ((↑x0:Int) < (↑(List.length (Frm.columns f)):Int))=true->inI ((↑x0:Int) + 1))
  (o9:smallF f -> ∀ (x0:Nat),x0<=List.length (Frm.columns f)->decide ((↑x0:Int) < (↑(List.length (Frm.columns f)):Int))=true->(↑x0:Int) + 1=(↑(x0 + 1):Int))
  (o10:smallF f -> ∀ (x0:Nat),x0<=List.length (Frm.columns f)->decide ((↑x0:Int) < (↑(List.length (Frm.columns f)):Int))=true -> ∀ (i2:Nat),i2 < x0 + 1->catF x0 (fun (k:Nat)=>[aInts (col f k)]) (fun (j:Nat)=>List.getD [[AV.sl 1 (0 + List.length (col f x0)) fun (i:Nat)=>[iv (List.getD (col f x0) i 0)]]] j (TI.za ti27)) i2 = [aInts (col f i2)])
  (o11:smallF f -> ∀ (x0:Nat),x0<=List.length (Frm.columns f)->decide ((↑x0:Int) < (↑(List.length (Frm.columns f)):Int))=true->x0 + 1<=List.length (Frm.columns f))
  (o12:smallF f -> ∀ (x0:Nat),x0<=List.length (Frm.columns f)->decide ((↑x0:Int) < (↑(List.length (Frm.columns f)):Int))=true->List.length (Frm.columns f) - (x0 + 1) < List.length (Frm.columns f) - x0)
  (o13:smallF f -> ∀ (x0:Nat),x0<=List.length (Frm.columns f)->decide ((↑x0:Int) < (↑(List.length (Frm.columns f)):Int))=false->0 + List.length (Frm.strips f)=List.length (Frm.strips f))
  (o14:smallF f -> ∀ (x0:Nat),x0<=List.length (Frm.columns f)->decide ((↑x0:Int) < (↑(List.length (Frm.columns f)):Int))=false->0 + List.length (Frm.pieces f)=List.length (Frm.pieces f))
  (o15:smallF f -> ∀ (x0:Nat),x0<=List.length (Frm.columns f)->decide ((↑x0:Int) < (↑(List.length (Frm.columns f)):Int))=false->x0=List.length (Frm.columns f))
  (l:List (Nat × Nat)) (hl:l.map (·.1)=(OutSpec.hout (ou31 f)).map (·.1)) (hnd:(l.map (·.2)).Nodup) :
  Triple Try.prog 31 (OutSpec.at (ou31 f) l):=by
 refine triple_out Try.func31 rfl Try.call31 T0_ok _ _ _ _ l rfl (Nat.le_of_ble_eq_true (by kernel_rfl)) hl hnd (by kernel_rfl) (by kernel_rfl) (by kernel_rfl) ?_
 intro hpre C hC hE
 obtain ⟨P,w0,E0,av,hA,ro,df⟩:=C
 obtain ⟨rfl,rfl,rfl⟩:=hC
 refine swp_seq ?_
 refine zR [1,2] [0,8] (Ak 2 tv) ?_
 refine swp_seq ?_
 refine zR [1,2,3] [0,8,120,72,104] (Ak 7 (An (o0 hpre) (Ak 3 (An (o1 hpre) (Ak 3 tv))))) ?_
 refine swp_seq ?_
 refine swp_seq ?_
 refine zR [1,2,3,4] [0,8,120,72,104] (Ak 1 tv) ?_
 refine swp_block ?_
 refine zL (Hint.ann (h31 f) [(1,AV.ptr 0 []),(2,AV.ptr 8 []),(3,AV.ptr 120 [])] [(0,OB.cells 26 (cFrm f)),(8,OB.cells 26 [iv 0,iv 0,nilv,nilv,nilv]),(72,OB.vec 65 2 (0 + List.length (Frm.strips f)) fun (i:Nat)=>cStrip (stp f i)),(104,OB.vec 46 3 (0 + List.length (Frm.pieces f)) fun (i:Nat)=>cPiece (pc f i))] 10144) (zE hE [] [(0,.same 0),(8,.same 8),(120,.same 120),(72,.same 72),(104,.same 104),(5000,.nil)] [] [0,8,72,104] (An (An (An (zr (some (Src.same 0))) (zr nilP)) (An (An (zr (some (Src.same 8))) (zr nilP)) (An (An (zr (some (Src.same 120))) (zr nilP)) (An (An (ci (o2 hpre)) (zr nilN)) tv)))) (An (An (An (zr (OB.cells 26 (cFrm f))) (zr true)) (An (An (zr (OB.cells 26 [iv 0,iv 0,nilv,nilv,nilv])) (zr true)) (An (An (zr (OB.vec 65 2 (0 + List.length (Frm.strips f)) fun (i:Nat)=>cStrip (stp f i))) (zr true)) (An (An (zr (OB.vec 46 3 (0 + List.length (Frm.pieces f)) fun (i:Nat)=>cPiece (pc f i))) (zr true)) (An (An (zr 26) (An (An (An (zr (iv (Frm.length f))) (zr nilN)) (An (An (zr (iv (Frm.slack f))) (zr nilN)) (An (zr (some (Src.same 72))) (An (zr (some (Src.same 104))) (An (zr (some Src.nil)) tv))))) (zr true))) (An (zr 0) tv)))))) (An (zr true) (zr true))))) (o3 hpre) (fun (x0:Nat) hx0 => ?_)
 refine swp_seq ?_
 refine swp_seq ?_
 refine zR [1,2,3,4,22] [0,8,120,72,104,5000] (Ak 5 tv) ?_
 refine zI (decide ((↑x0:Int) < (↑(List.length (Frm.columns f)):Int))) (fun y1 => ?_) (fun y1 => ?_)
 ·refine swp_skip ?_
  refine swp_seq ?_
  refine swp_block ?_
  refine zR [1,2,3,4] [0,8,120,72,104,10264] (Ak 6 (An (An (o4 hpre x0 hx0 y1) (o5 hpre x0 hx0 y1)) (Ak 1 (An (o6 hpre x0 hx0 y1) (Ak 1 (An (o7 hpre x0 hx0 y1) (Ak 2 tv))))))) ?_
  refine zR [1,2,3,4] [0,8,120,72,104,10264] (Ak 1 (An (o8 hpre x0 hx0 y1) (Ak 1 tv))) ?_
  exact zn (zE hE [] [(0,.same 0),(8,.same 8),(120,.same 120),(72,.same 72),(104,.same 104),(5000,.same 10264)] [] [0,8,72,104] (An (An (An (zr (some (Src.same 0))) (zr nilP)) (An (An (zr (some (Src.same 8))) (zr nilP)) (An (An (zr (some (Src.same 120))) (zr nilP)) (An (An (ci (o9 hpre x0 hx0 y1)) (zr nilN)) tv)))) (An (An (An (zr (OB.cells 26 (cFrm f))) (zr true)) (An (An (zr (OB.cells 26 [iv 0,iv 0,nilv,nilv,nilv])) (zr true)) (An (An (zr (OB.vec 65 2 (0 + List.length (Frm.strips f)) fun (i:Nat)=>cStrip (stp f i))) (zr true)) (An (An (zr (OB.vec 46 3 (0 + List.length (Frm.pieces f)) fun (i:Nat)=>cPiece (pc f i))) (zr true)) (An (An (zr 26) (An (An (An (zr (iv (Frm.length f))) (zr nilN)) (An (An (zr (iv (Frm.slack f))) (zr nilN)) (An (zr (some (Src.same 72))) (An (zr (some (Src.same 104))) (An (zr (some (Src.same 10264))) tv))))) (zr true))) (An (An (zr 27) (An (zr 1) (An (zr (x0 + 1)) (fun (i2:Nat)=>(fun (y3:i2 < x0 + 1)=>(o10 hpre x0 hx0 y1 i2 y3)))))) tv)))))) (An (zr true) (zr true))))) (o11 hpre x0 hx0 y1) (o12 hpre x0 hx0 y1)
 ·refine swp_exit ?_
  refine swp_seq ?_
  refine zR [2] [8,72,104,5000] (Ak 2 tv) ?_
  refine swp_ret ?_
  exact zO (ASt.mk [(2,AV.ptr 90 [])] [(90,OB.cells 26 [iv (Frm.length f),iv (Frm.slack f),AV.vec 0,AV.vec 1,AV.vec 2]),(0,OB.vec 65 2 (List.length (Frm.strips f)) fun (i:Nat)=>cStrip (stp f i)),(1,OB.vec 46 3 (List.length (Frm.pieces f)) fun (i:Nat)=>cPiece (pc f i)),(2,OB.vec 27 1 (List.length (Frm.columns f)) fun (i:Nat)=>[aInts (col f i)])] 100) (zE hE [] [(90,.same 8),(0,.same 72),(1,.same 104),(2,.same 5000)] [] [] (An (An (An (zr (some (Src.same 8))) (zr nilP)) tv) (An (An (An (zr 26) (An (An (An (zr (iv (Frm.length f))) (zr nilN)) (An (An (zr (iv (Frm.slack f))) (zr nilN)) (An (zr (some (Src.same 72))) (An (zr (some (Src.same 104))) (An (zr (some (Src.same 5000))) tv))))) (zr true))) (An (An (zr 65) (An (zr 2) (An (o13 hpre x0 hx0 y1) (fun (i4:Nat)=>(fun (y5:i4 < 0 + List.length (Frm.strips f))=>(zr (cStrip (stp f i4)))))))) (An (An (zr 46) (An (zr 3) (An (o14 hpre x0 hx0 y1) (fun (i6:Nat)=>(fun (y7:i6 < 0 + List.length (Frm.pieces f))=>(zr (cPiece (pc f i6)))))))) (An (An (zr 27) (An (zr 1) (An (o15 hpre x0 hx0 y1) (fun (i8:Nat)=>(fun (y9:i8 < x0)=>(zr ([aInts (col f i8)]))))))) tv)))) (An (zr true) (zr true))))) (An (Ak 1 tv) (An (zr (AV.agg [iv (Frm.length f),iv (Frm.slack f),AV.vec 0,AV.vec 1,AV.vec 2])) (An (zr (some (OB.vec 65 2 (List.length (Frm.strips f)) fun (i:Nat)=>cStrip (stp f i)))) (An (zr (some (OB.vec 46 3 (List.length (Frm.pieces f)) fun (i:Nat)=>cPiece (pc f i)))) (An (zr (some (OB.vec 27 1 (List.length (Frm.columns f)) fun (i:Nat)=>[aInts (col f i)]))) tv)))))
theorem to31 (f:Frm) (l:List (Nat × Nat)) (hl:l.map (·.1) = [0,1,2]) (hnd:(l.map (·.2)).Nodup):Triple Try.prog 31 ((ou31 f).at l):=by
 apply wo31 (l:=l) (hl:=hl) (hnd:=hnd)
 all_goals (intro hp; obtain ⟨a1,a2,a3,a4⟩:=hp)
 case o6=>intro x hx hl; have:=a4 x; show _<=_; omega
 case o10 =>
  intro x hx hl i hi
  refine catF_idx (fun k=>[aInts (col f k)]) ?_ hi
  show [AV.sl 1 (0 + (col f x).length) _] = [aInts (col f x)]
  rw [Nat.zero_add]; rfl
 all_goals (first | omega | rfl | skip)
 all_goals (intro x hx hl; simp only [decide_eq_true_eq,decide_eq_false_iff_not] at hl)
 all_goals (first | omega | (simp only [inI]; omega))
theorem t31o (f:Frm) (id:Nat):Triple Try.prog 31 (s31o f id):=to31 f _ rfl (by simp)
theorem w49 (f:Frm) (k:Int) (m:Int)
  (o0:smallF f/\0<=k/\k < (↑(List.length (Frm.strips f)):Int)->0<=k)
  (o1:smallF f/\0<=k/\k < (↑(List.length (Frm.strips f)):Int)->k < (↑(List.length (Frm.strips f)):Int))
  (o2:smallF f/\0<=k/\k < (↑(List.length (Frm.strips f)):Int)->Int.toNat k < List.length (Frm.strips f))
  (o3:smallF f/\0<=k/\k < (↑(List.length (Frm.strips f)):Int)->0<=k)
  (o4:smallF f/\0<=k/\k < (↑(List.length (Frm.strips f)):Int)->k < (↑(List.length (Frm.strips f)):Int))
  (o5:smallF f/\0<=k/\k < (↑(List.length (Frm.strips f)):Int)->Int.toNat k < List.length (Frm.strips f))
  (o6:smallF f/\0<=k/\k < (↑(List.length (Frm.strips f)):Int)->Frm.length f=Frm.length (stockedF f (Int.toNat k) m))
  (o7:smallF f/\0<=k/\k < (↑(List.length (Frm.strips f)):Int)->Frm.slack f=Frm.slack (stockedF f (Int.toNat k) m))
  (o8:smallF f/\0<=k/\k < (↑(List.length (Frm.strips f)):Int)->List.length (Frm.strips f)=List.length (Frm.strips (stockedF f (Int.toNat k) m)))
  (o9:smallF f/\0<=k/\k < (↑(List.length (Frm.strips f)):Int) -> ∀ (i1:Nat),i1 < List.length (Frm.strips (stockedF f (Int.toNat k) m))->Decidable.rec (fun (h:¬i1=Int.toNat k)=>cStrip (stp f i1)) (fun (h:i1=Int.toNat k)=>[iv (Strip.thick (stp f (Int.toNat k))),iv m] ++ []) (instDecidableEqNat i1 (Int.toNat k))=cStrip (stp (stockedF f (Int.toNat k) m) i1))
  (o10:smallF f/\0<=k/\k < (↑(List.length (Frm.strips f)):Int)->List.length (Frm.pieces f)=List.length (Frm.pieces (stockedF f (Int.toNat k) m)))
  (o11:smallF f/\0<=k/\k < (↑(List.length (Frm.strips f)):Int) -> ∀ (i3:Nat),i3 < List.length (Frm.pieces (stockedF f (Int.toNat k) m))->cPiece (pc f i3)=cPiece (pc (stockedF f (Int.toNat k) m) i3))
  (o12:smallF f/\0<=k/\k < (↑(List.length (Frm.strips f)):Int)->List.length (Frm.columns f)=List.length (Frm.columns (stockedF f (Int.toNat k) m)))
  (o13:smallF f/\0<=k/\k < (↑(List.length (Frm.strips f)):Int) -> ∀ (i5:Nat),i5 < List.length (Frm.columns (stockedF f (Int.toNat k) m)) -> [aInts (col f i5)] = [aInts (col (stockedF f (Int.toNat k) m) i5)]) :
  Triple Try.prog 49 (s49 f k m):=by
 refine triple_of Try.func49 rfl Try.call49 T0_ok _ rfl rfl rfl rfl (Nat.le_of_ble_eq_true (by kernel_rfl)) (fun _ _ _ _ h=>h) ?_
 intro hpre C hC _ hE
 obtain ⟨P,w0,E0,av,hA,ro,df⟩:=C
 obtain ⟨rfl,rfl,rfl⟩:=hC
 refine swp_seq ?_
 refine zR [1,2,3,6] [0,8] (Ak 2 tv) ?_
 refine swp_seq ?_
 refine zC ([(1,CallSpec.eq (c49 f k m 24) [true])]) [1,2,6,7] [8,32,24,25,26] (Ak 1 (An (An (An (zr (AV.agg (cFrm f))) tv) (An (t31o (f) (24)) (An hpre.1 (Ak 1 (fun (i0:Env)=>tv))))) (Ak 2 tv))) ?_
 refine swp_seq ?_
 refine zR [1,2,6,7,8] [8,32,88,24,25,26] (Ak 3 (An (An (o0 hpre) (o1 hpre)) (An (An (o2 hpre) tv) (Ak 2 tv)))) ?_
 refine swp_seq ?_
 refine zR [1,6,7,8] [8,32,88,24,25,26] (Ak 3 tv) ?_
 refine swp_seq ?_
 refine zR [6,7] [8,32,24,25,26] (Ak 4 (An (An (o3 hpre) (o4 hpre)) (An (An (o5 hpre) tv) tv))) ?_
 refine swp_seq ?_
 refine zR [6] [8,24,25,26] (Ak 2 tv) ?_
 refine swp_ret ?_
 exact zT [24,25,26] (An (Ak 1 tv) (An (An (An (ci (o6 hpre)) (zr nilN)) (An (An (ci (o7 hpre)) (zr nilN)) (An (An (zr 2) (An (o8 hpre) (fun (i1:Nat)=>(fun (y2:i1 < List.length (Frm.strips (stockedF f (Int.toNat k) m)))=>(o9 hpre i1 y2))))) (An (An (zr 3) (An (o10 hpre) (fun (i3:Nat)=>(fun (y4:i3 < List.length (Frm.pieces (stockedF f (Int.toNat k) m)))=>(o11 hpre i3 y4))))) (An (An (zr 1) (An (o12 hpre) (fun (i5:Nat)=>(fun (y6:i5 < List.length (Frm.columns (stockedF f (Int.toNat k) m)))=>(o13 hpre i5 y6))))) tv))))) (An (zr true) (An (zr true) (zr true)))))
theorem stp_stocked {f:Frm} {k:Nat} (hk:k < f.strips.length) (m:Int) (j:Nat):stp (stockedF f k m) j=if j=k then { stp f k with many:=m } else stp f j:=by
 show (f.strips.set k _).getD j default=_
 rw [List.getD_eq_getElem?_getD,List.getElem?_set]
 by_cases e:k=j
 ·subst e; rw [if_pos rfl,if_pos hk,if_pos rfl]; rfl
 ·rw [if_neg e,if_neg (fun h=>e h.symm),stp,List.getD_eq_getElem?_getD]
theorem t49 (f:Frm) (k m:Int):Triple Try.prog 49 (s49 f k m):=by
 apply w49
 all_goals (rintro ⟨hp,h1,h2⟩)
 case o8=>exact List.length_set.symm
 case o9 =>
  intro i hi
  rw [stp_stocked (by omega)]
  refine rec_ei (fun h => ?_) (fun h => ?_)
  ·rw [if_neg h]
  ·rw [if_pos h]; rfl
 all_goals (first | omega | rfl | (intro i hi; rfl))
theorem w82 
  (o0:60=Frm.length exP)
  (o1:2=Frm.slack exP)
  (o2:∀ (i0:Nat),i0 < List.length (Frm.strips exP)->List.getD [[iv 5,iv 2],[iv 3,iv 2],[iv 18,iv 1]] i0 (TI.za ti65)=cStrip (stp exP i0))
  (o3:∀ (i2:Nat),i2 < List.length (Frm.pieces exP)->List.getD [[iv 20,iv 21,iv 9],[iv 30,iv 30,iv 5],[iv 40,iv 41,iv 7],[iv 12,iv 13,iv 4]] i2 (TI.za ti46)=cPiece (pc exP i2))
  (o4:∀ (i4:Nat),i4 < List.length (Frm.columns exP)->List.getD [[AV.sl 1 2 fun (j:Nat)=>List.getD [[iv 0],[iv 1]] j (TI.za ti3)],[AV.sl 1 2 fun (j:Nat)=>List.getD [[iv 2],[iv 3]] j (TI.za ti3)]] i4 (TI.za ti27) = [aInts (col exP i4)])
  (o5:smallF exP)
  (o6:Frm.length (stockedF exP 1 3)=Frm.length exO)
  (o7:Frm.slack (stockedF exP 1 3)=Frm.slack exO)
  (o8:∀ (i13:Nat),i13 < List.length (Frm.strips exO)->cStrip (stp (stockedF exP 1 3) i13)=cStrip (stp exO i13))
  (o9:∀ (i15:Nat),i15 < List.length (Frm.pieces exO)->cPiece (pc (stockedF exP 1 3) i15)=cPiece (pc exO i15))
  (o10:∀ (i17:Nat),i17 < List.length (Frm.columns exO) -> [aInts (col (stockedF exP 1 3) i17)] = [aInts (col exO i17)]) :
  Triple Try.prog 82 (s82):=by
 refine triple_of Try.func82 rfl Try.call82 T0_ok _ rfl rfl rfl rfl (Nat.le_of_ble_eq_true (by kernel_rfl)) (fun _ _ _ _ h=>h) ?_
 intro _ C hC _ hE
 obtain ⟨P,w0,E0,av,hA,ro,df⟩:=C
 obtain ⟨rfl,rfl,rfl⟩:=hC
 refine swp_seq ?_
 refine zR [0,1] [0,8] (Ak 2 tv) ?_
 refine swp_seq ?_
 refine zR [0,1] [0,8,40,112,136] (Ak 18 tv) ?_
 refine swp_seq ?_
 refine swp_ent (zE (st2:=ASt.mk [(0,AV.ptr 0 []),(1,AV.ptr 8 [])] [(0,OB.cells 26 (cFrm exP)),(8,OB.cells 26 [iv 0,iv 0,nilv,nilv,nilv])] 160) hE [40,112,136] [(0,.same 0),(8,.same 8)] [] [8] (An (An (An (zr (some (Src.same 0))) (zr nilP)) (An (An (zr (some (Src.same 8))) (zr nilP)) tv)) (An (An (An (zr 26) (An (An (An (ci (o0)) (zr nilN)) (An (An (ci (o1)) (zr nilN)) (An (An (zr 2) (An (by decide:3=List.length (Frm.strips exP)) (fun (i0:Nat)=>(fun (y1:i0 < List.length (Frm.strips exP))=>(o2 i0 y1))))) (An (An (zr 3) (An (by decide:4=List.length (Frm.pieces exP)) (fun (i2:Nat)=>(fun (y3:i2 < List.length (Frm.pieces exP))=>(o3 i2 y3))))) (An (An (zr 1) (An (by decide:2=List.length (Frm.columns exP)) (fun (i4:Nat)=>(fun (y5:i4 < List.length (Frm.columns exP))=>(o4 i4 y5))))) tv))))) (zr true))) (An (An (zr (OB.cells 26 [iv 0,iv 0,nilv,nilv,nilv])) (zr true)) tv)) (An (zr true) (zr true))))) ?_
 refine zC ([(2,CallSpec.eq c82 [true,true,true])]) [0,1] [0,8] (Ak 2 (An (An (An (zr (AV.agg (cFrm exP))) (An (zr (iv 1)) (An (zr (iv 3)) tv))) (An (t49 (exP) (1) (3)) (An (An (o5) (An (by decide:Int.ofNat 0<=Int.ofNat 1) (by decide:1 < (↑(List.length (Frm.strips exP)):Int)))) (Ak 1 (fun (i6:Env)=>tv))))) (Ak 2 tv))) ?_
 refine swp_ret ?_
 exact zT [] (An (Ak 2 tv) (An (An (An (An (zr (iv (Frm.length exP))) (zr nilN)) (An (An (zr (iv (Frm.slack exP))) (zr nilN)) (An (An (zr 2) (An (zr (List.length (Frm.strips exP))) (fun (i7:Nat)=>(fun (y8:i7 < List.length (Frm.strips exP))=>(zr (cStrip (stp exP i7))))))) (An (An (zr 3) (An (zr (List.length (Frm.pieces exP))) (fun (i9:Nat)=>(fun (y10:i9 < List.length (Frm.pieces exP))=>(zr (cPiece (pc exP i9))))))) (An (An (zr 1) (An (zr (List.length (Frm.columns exP))) (fun (i11:Nat)=>(fun (y12:i11 < List.length (Frm.columns exP))=>(zr ([aInts (col exP i11)])))))) tv))))) (An (An (An (ci (o6)) (zr nilN)) (An (An (ci (o7)) (zr nilN)) (An (An (zr 2) (An (by decide:List.length (Frm.strips (stockedF exP 1 3))=List.length (Frm.strips exO)) (fun (i13:Nat)=>(fun (y14:i13 < List.length (Frm.strips exO))=>(o8 i13 y14))))) (An (An (zr 3) (An (by decide:List.length (Frm.pieces (stockedF exP 1 3))=List.length (Frm.pieces exO)) (fun (i15:Nat)=>(fun (y16:i15 < List.length (Frm.pieces exO))=>(o9 i15 y16))))) (An (An (zr 1) (An (by decide:List.length (Frm.columns (stockedF exP 1 3))=List.length (Frm.columns exO)) (fun (i17:Nat)=>(fun (y18:i17 < List.length (Frm.columns exO))=>(o10 i17 y18))))) tv))))) tv)) (An (zr true) (An (zr true) (zr true)))))
theorem small_frm {f:Frm} (h:decide (f.strips.length<=64) && decide (f.pieces.length<=64) && decide (f.columns.length<=64) && f.columns.all (fun c=>decide (c.length<=64))=true):smallF f:=by
 simp only [Bool.and_eq_true,decide_eq_true_eq] at h
 refine ⟨h.1.1.1,h.1.1.2,h.1.2,fun i => ?_⟩
 by_cases hi:i < f.columns.length
 ·have:=idx_all [] h.2 hi
  exact of_decide_eq_true this
 ·have:col f i = []:=getD_ge _ _ (by omega)
  rw [this]; exact Nat.zero_le _
theorem small_exP:smallF exP:=small_frm (by decide)
theorem small_exO:smallF exO:=small_frm (by decide)
theorem sl_ext {sz n:Nat} {f g:Nat->List AV} (h:∀ j,f j=g j):AV.sl sz n f = .sl sz n g:=by rw [funext h]
theorem t82:Triple Try.prog 82 s82:=by
 apply w82
 case o2 =>
  intro i hi
  have:i=0 ∨ i=1 ∨ i=2:=by simp [exP] at hi; omega
  rcases this with rfl | rfl | rfl <;> rfl
 case o3 =>
  intro i hi
  have:i=0 ∨ i=1 ∨ i=2 ∨ i=3:=by simp [exP] at hi; omega
  rcases this with rfl | rfl | rfl | rfl <;> rfl
 case o4 =>
  intro i hi
  have:i=0 ∨ i=1:=by simp [exP] at hi; omega
  rcases this with rfl | rfl
  ·exact congrArg (fun z=>[z]) (sl_ext fun j=>by rcases j with _ | _ | j <;> rfl)
  ·exact congrArg (fun z=>[z]) (sl_ext fun j=>by rcases j with _ | _ | j <;> rfl)
 case o5=>exact small_exP
 all_goals (first | rfl | (intro i hi; rfl) | decide)
theorem t82o (f o:Frm):Triple Try.prog 82 (s82o f o):=⟨t82.1,fun h=>by obtain ⟨rfl,rfl⟩:=h; exact t82.2 trivial⟩
theorem w20 (f:Frm) (o:Frm)
  (o0:f=exP/\o=exO->smallF f)
  (o1:f=exP/\o=exO->smallF o)
  (o2:f=exP/\o=exO->smallF f)
  (o3:f=exP/\o=exO -> ∀ (i4:Nat),i4 < List.length [2,0,0]->List.getD [[iv 2],[iv 0],[iv 0]] i4 (TI.za ti3) = [iv (List.getD [2,0,0] i4 0)])
  (o4:f=exP/\o=exO->smallF o)
  (o5:f=exP/\o=exO->smallF o)
  (o6:f=exP/\o=exO->smallF f)
  (o7:f=exP/\o=exO->(bif bif bif bif bif bif bif decide (roomE f 0=0) then decide (stripsE o=0) else false then decide (refuseE f=0) else false then decide (openF o (fitsG o 0 [2,0,0])=0) else false then decide (growE o 0=0) else false then decide (openF f (gapG f 1 3)=0) else false then decide (Span.lo (roomR f 0)=8) && (decide (Span.hi (roomR f 0)=9) && true) else false then decide (stripsN o=4) else false)=true -> ∀ (i53:Nat),i53 < List.length [3]->List.getD [[iv 3]] i53 (TI.za ti3) = [iv (List.getD [3] i53 0)])
  (o8:f=exP/\o=exO->(bif bif bif bif bif bif bif decide (roomE f 0=0) then decide (stripsE o=0) else false then decide (refuseE f=0) else false then decide (openF o (fitsG o 0 [2,0,0])=0) else false then decide (growE o 0=0) else false then decide (openF f (gapG f 1 3)=0) else false then decide (Span.lo (roomR f 0)=8) && (decide (Span.hi (roomR f 0)=9) && true) else false then decide (stripsN o=4) else false)=true->List.length (refuseL f)<=big)
  (o9:f=exP/\o=exO->(bif bif bif bif bif bif bif bif bif bif bif decide (roomE f 0=0) then decide (stripsE o=0) else false then decide (refuseE f=0) else false then decide (openF o (fitsG o 0 [2,0,0])=0) else false then decide (growE o 0=0) else false then decide (openF f (gapG f 1 3)=0) else false then decide (Span.lo (roomR f 0)=8) && (decide (Span.hi (roomR f 0)=9) && true) else false then decide (stripsN o=4) else false then sameInts (refuseL f) [3] else false then decide (fitsP o 0 [2,0,0]=3) else false then decide (growN o 0=22) else false then decide (Span.lo (gapR f 1 3)=19) && (decide (Span.hi (gapR f 1 3)=21) && true) else false)=true) :
  Triple Try.prog 20 (sw20 f o):=by
 refine triple_of Try.func20 rfl Try.call20 T0_ok _ rfl rfl rfl rfl (Nat.le_of_ble_eq_true (by kernel_rfl)) (fun _ _ _ _ h=>h) ?_
 intro hpre C hC _ hE
 obtain ⟨P,w0,E0,av,hA,ro,df⟩:=C
 obtain ⟨rfl,rfl,rfl⟩:=hC
 refine swp_seq ?_
 refine zR [] [] (Ak 1 tv) ?_
 refine swp_seq ?_
 refine zC ([(0,CallSpec.eq (c20a f o) [])]) [1,2] [40,48] (An (Ak 1 (An (t82o (f) (o)) (An (An hpre.1 hpre.2) (Ak 1 (fun (i0:Env)=>tv))))) (Ak 7 tv)) ?_
 refine swp_seq ?_
 refine zC ([(1,CallSpec.eq (s22 f 0) [true,true])]) [1,2,3,4] [40,48,112] (Ak 1 (An (An (An (zr (AV.agg (cFrm f))) (An (zr (iv 0)) tv)) (An (t22 (f) (0)) (An (o0 hpre) (Ak 1 (fun (i1:Env)=>tv))))) (Ak 6 tv))) ?_
 refine swp_seq ?_
 refine zC ([(1,CallSpec.eq (s59 o) [true])]) [1,2,3,4,5,6] [40,48,112] (Ak 1 (An (An (An (zr (AV.agg (cFrm o))) tv) (An (t59 (o)) (An (o1 hpre) (Ak 1 (fun (i2:Env)=>tv))))) (Ak 5 tv))) ?_
 refine swp_seq ?_
 refine zC ([(1,CallSpec.eq (s42 f) [true])]) [1,2,3,4,5,6,7,8] [40,48,112] (Ak 1 (An (An (An (zr (AV.agg (cFrm f))) tv) (An (t42 (f)) (An (o2 hpre) (Ak 1 (fun (i3:Env)=>tv))))) (Ak 5 tv))) ?_
 refine swp_seq ?_
 refine zC ([(2,CallSpec.eq (c20b f o) [true,true,false])]) [1,2,3,4,5,6,7,8,9,10] [40,48,112] (Ak 2 (An (An (An (zr (AV.agg (cFrm o))) (An (zr (iv 0)) (An (An (zr 1) (An (zr 3) (fun (i4:Nat)=>(fun (y5:i4 < List.length [2,0,0])=>(o3 hpre i4 y5))))) tv))) (An (t36 (o) (0) ([2,0,0])) (An (An (o4 hpre) (by decide:List.length [2,0,0]<=64)) (Ak 1 (fun (i6:Env)=>tv))))) (Ak 5 tv))) ?_
 refine swp_seq ?_
 refine zC ([(1,CallSpec.eq (s26 o 0) [true,true])]) [1,3,4,5,6,7,8,9,10,11,12] [40,112] (Ak 1 (An (An (An (zr (AV.agg (cFrm o))) (An (zr (iv 0)) tv)) (An (t26 (o) (0)) (An (o5 hpre) (Ak 1 (fun (i7:Env)=>tv))))) (Ak 5 tv))) ?_
 refine swp_seq ?_
 refine zC ([(1,CallSpec.eq (s48 f 1 3) [true,true,true])]) [3,4,5,6,7,8,9,10,11,12,13,14] [112,408] (Ak 1 (An (An (An (zr (AV.agg (cFrm f))) (An (zr (iv 1)) (An (zr (iv 3)) tv))) (An (t48 (f) (1) (3)) (An (o6 hpre) (Ak 1 (fun (i8:Env)=>tv))))) (Ak 6 tv))) ?_
 refine swp_seq ?_
 refine zC ([(34,CallSpec.eq (c20c f o) [false,false])]) [0] [] (Ak 3 (An (fun (y9:decide (roomE f 0=0)=true)=>(An (Ak 1 tv) tv)) (An (fun (y10:decide (roomE f 0=0)=true)=>(An (An (fun (y11:decide (roomE f 0=0)=true)=>y10) (Ak 1 tv)) tv)) (An (An (fun (y12:decide (roomE f 0=0)=true)=>y12) (fun (y13:decide (roomE f 0=0)=false)=>tv)) (Ak 1 (An (fun (y14:(bif decide (roomE f 0=0) then decide (stripsE o=0) else false)=true)=>(An (Ak 1 tv) tv)) (An (fun (y15:(bif decide (roomE f 0=0) then decide (stripsE o=0) else false)=true)=>(An (An (fun (y16:(bif decide (roomE f 0=0) then decide (stripsE o=0) else false)=true)=>y15) (Ak 1 tv)) tv)) (An (An (fun (y17:(bif decide (roomE f 0=0) then decide (stripsE o=0) else false)=true)=>y17) (fun (y18:(bif decide (roomE f 0=0) then decide (stripsE o=0) else false)=false)=>tv)) (Ak 1 (An (fun (y19:(bif bif decide (roomE f 0=0) then decide (stripsE o=0) else false then decide (refuseE f=0) else false)=true)=>(An (Ak 1 tv) tv)) (An (fun (y20:(bif bif decide (roomE f 0=0) then decide (stripsE o=0) else false then decide (refuseE f=0) else false)=true)=>(An (An (fun (y21:(bif bif decide (roomE f 0=0) then decide (stripsE o=0) else false then decide (refuseE f=0) else false)=true)=>y20) (Ak 1 tv)) tv)) (An (An (fun (y22:(bif bif decide (roomE f 0=0) then decide (stripsE o=0) else false then decide (refuseE f=0) else false)=true)=>y22) (fun (y23:(bif bif decide (roomE f 0=0) then decide (stripsE o=0) else false then decide (refuseE f=0) else false)=false)=>tv)) (Ak 1 (An (fun (y24:(bif bif bif decide (roomE f 0=0) then decide (stripsE o=0) else false then decide (refuseE f=0) else false then decide (openF o (fitsG o 0 [2,0,0])=0) else false)=true)=>(An (Ak 1 tv) tv)) (An (fun (y25:(bif bif bif decide (roomE f 0=0) then decide (stripsE o=0) else false then decide (refuseE f=0) else false then decide (openF o (fitsG o 0 [2,0,0])=0) else false)=true)=>(An (An (fun (y26:(bif bif bif decide (roomE f 0=0) then decide (stripsE o=0) else false then decide (refuseE f=0) else false then decide (openF o (fitsG o 0 [2,0,0])=0) else false)=true)=>y25) (Ak 1 tv)) tv)) (An (An (fun (y27:(bif bif bif decide (roomE f 0=0) then decide (stripsE o=0) else false then decide (refuseE f=0) else false then decide (openF o (fitsG o 0 [2,0,0])=0) else false)=true)=>y27) (fun (y28:(bif bif bif decide (roomE f 0=0) then decide (stripsE o=0) else false then decide (refuseE f=0) else false then decide (openF o (fitsG o 0 [2,0,0])=0) else false)=false)=>tv)) (Ak 1 (An (fun (y29:(bif bif bif bif decide (roomE f 0=0) then decide (stripsE o=0) else false then decide (refuseE f=0) else false then decide (openF o (fitsG o 0 [2,0,0])=0) else false then decide (growE o 0=0) else false)=true)=>(An (Ak 1 tv) tv)) (An (fun (y30:(bif bif bif bif decide (roomE f 0=0) then decide (stripsE o=0) else false then decide (refuseE f=0) else false then decide (openF o (fitsG o 0 [2,0,0])=0) else false then decide (growE o 0=0) else false)=true)=>(An (An (fun (y31:(bif bif bif bif decide (roomE f 0=0) then decide (stripsE o=0) else false then decide (refuseE f=0) else false then decide (openF o (fitsG o 0 [2,0,0])=0) else false then decide (growE o 0=0) else false)=true)=>y30) (Ak 1 tv)) tv)) (An (An (fun (y32:(bif bif bif bif decide (roomE f 0=0) then decide (stripsE o=0) else false then decide (refuseE f=0) else false then decide (openF o (fitsG o 0 [2,0,0])=0) else false then decide (growE o 0=0) else false)=true)=>y32) (fun (y33:(bif bif bif bif decide (roomE f 0=0) then decide (stripsE o=0) else false then decide (refuseE f=0) else false then decide (openF o (fitsG o 0 [2,0,0])=0) else false then decide (growE o 0=0) else false)=false)=>tv)) (Ak 1 (An (fun (y34:(bif bif bif bif bif decide (roomE f 0=0) then decide (stripsE o=0) else false then decide (refuseE f=0) else false then decide (openF o (fitsG o 0 [2,0,0])=0) else false then decide (growE o 0=0) else false then decide (openF f (gapG f 1 3)=0) else false)=true)=>(An (Ak 1 tv) tv)) (An (fun (y35:(bif bif bif bif bif decide (roomE f 0=0) then decide (stripsE o=0) else false then decide (refuseE f=0) else false then decide (openF o (fitsG o 0 [2,0,0])=0) else false then decide (growE o 0=0) else false then decide (openF f (gapG f 1 3)=0) else false)=true)=>(An (Ak 2 tv) tv)) (An (fun (y36:(bif bif bif bif bif decide (roomE f 0=0) then decide (stripsE o=0) else false then decide (refuseE f=0) else false then decide (openF o (fitsG o 0 [2,0,0])=0) else false then decide (growE o 0=0) else false then decide (openF f (gapG f 1 3)=0) else false)=true)=>(An (An (fun (y37:(bif bif bif bif bif decide (roomE f 0=0) then decide (stripsE o=0) else false then decide (refuseE f=0) else false then decide (openF o (fitsG o 0 [2,0,0])=0) else false then decide (growE o 0=0) else false then decide (openF f (gapG f 1 3)=0) else false)=true)=>y36) (An (fun (y38:(bif bif bif bif bif decide (roomE f 0=0) then decide (stripsE o=0) else false then decide (refuseE f=0) else false then decide (openF o (fitsG o 0 [2,0,0])=0) else false then decide (growE o 0=0) else false then decide (openF f (gapG f 1 3)=0) else false)=true)=>y36) tv)) tv)) (An (An (fun (y39:(bif bif bif bif bif decide (roomE f 0=0) then decide (stripsE o=0) else false then decide (refuseE f=0) else false then decide (openF o (fitsG o 0 [2,0,0])=0) else false then decide (growE o 0=0) else false then decide (openF f (gapG f 1 3)=0) else false)=true)=>y39) (fun (y40:(bif bif bif bif bif decide (roomE f 0=0) then decide (stripsE o=0) else false then decide (refuseE f=0) else false then decide (openF o (fitsG o 0 [2,0,0])=0) else false then decide (growE o 0=0) else false then decide (openF f (gapG f 1 3)=0) else false)=false)=>tv)) (Ak 1 (An (fun (y41:(bif bif bif bif bif bif decide (roomE f 0=0) then decide (stripsE o=0) else false then decide (refuseE f=0) else false then decide (openF o (fitsG o 0 [2,0,0])=0) else false then decide (growE o 0=0) else false then decide (openF f (gapG f 1 3)=0) else false then decide (Span.lo (roomR f 0)=8) && (decide (Span.hi (roomR f 0)=9) && true) else false)=true)=>(An (Ak 1 tv) tv)) (An (fun (y42:(bif bif bif bif bif bif decide (roomE f 0=0) then decide (stripsE o=0) else false then decide (refuseE f=0) else false then decide (openF o (fitsG o 0 [2,0,0])=0) else false then decide (growE o 0=0) else false then decide (openF f (gapG f 1 3)=0) else false then decide (Span.lo (roomR f 0)=8) && (decide (Span.hi (roomR f 0)=9) && true) else false)=true)=>(An (An (fun (y43:(bif bif bif bif bif bif decide (roomE f 0=0) then decide (stripsE o=0) else false then decide (refuseE f=0) else false then decide (openF o (fitsG o 0 [2,0,0])=0) else false then decide (growE o 0=0) else false then decide (openF f (gapG f 1 3)=0) else false then decide (Span.lo (roomR f 0)=8) && (decide (Span.hi (roomR f 0)=9) && true) else false)=true)=>y42) (Ak 1 tv)) tv)) (An (An (fun (y44:(bif bif bif bif bif bif decide (roomE f 0=0) then decide (stripsE o=0) else false then decide (refuseE f=0) else false then decide (openF o (fitsG o 0 [2,0,0])=0) else false then decide (growE o 0=0) else false then decide (openF f (gapG f 1 3)=0) else false then decide (Span.lo (roomR f 0)=8) && (decide (Span.hi (roomR f 0)=9) && true) else false)=true)=>y44) (fun (y45:(bif bif bif bif bif bif decide (roomE f 0=0) then decide (stripsE o=0) else false then decide (refuseE f=0) else false then decide (openF o (fitsG o 0 [2,0,0])=0) else false then decide (growE o 0=0) else false then decide (openF f (gapG f 1 3)=0) else false then decide (Span.lo (roomR f 0)=8) && (decide (Span.hi (roomR f 0)=9) && true) else false)=false)=>tv)) (Ak 1 (An (fun (y46:(bif bif bif bif bif bif bif decide (roomE f 0=0) then decide (stripsE o=0) else false then decide (refuseE f=0) else false then decide (openF o (fitsG o 0 [2,0,0])=0) else false then decide (growE o 0=0) else false then decide (openF f (gapG f 1 3)=0) else false then decide (Span.lo (roomR f 0)=8) && (decide (Span.hi (roomR f 0)=9) && true) else false then decide (stripsN o=4) else false)=true)=>(An (Ak 1 tv) tv)) (An (fun (y47:(bif bif bif bif bif bif bif decide (roomE f 0=0) then decide (stripsE o=0) else false then decide (refuseE f=0) else false then decide (openF o (fitsG o 0 [2,0,0])=0) else false then decide (growE o 0=0) else false then decide (openF f (gapG f 1 3)=0) else false then decide (Span.lo (roomR f 0)=8) && (decide (Span.hi (roomR f 0)=9) && true) else false then decide (stripsN o=4) else false)=true)=>(An (Ak 1 tv) tv)) (An (fun (y48:(bif bif bif bif bif bif bif decide (roomE f 0=0) then decide (stripsE o=0) else false then decide (refuseE f=0) else false then decide (openF o (fitsG o 0 [2,0,0])=0) else false then decide (growE o 0=0) else false then decide (openF f (gapG f 1 3)=0) else false then decide (Span.lo (roomR f 0)=8) && (decide (Span.hi (roomR f 0)=9) && true) else false then decide (stripsN o=4) else false)=true)=>(An (Ak 1 (An (fun (y49:(bif bif bif bif bif bif bif decide (roomE f 0=0) then decide (stripsE o=0) else false then decide (refuseE f=0) else false then decide (openF o (fitsG o 0 [2,0,0])=0) else false then decide (growE o 0=0) else false then decide (openF f (gapG f 1 3)=0) else false then decide (Span.lo (roomR f 0)=8) && (decide (Span.hi (roomR f 0)=9) && true) else false then decide (stripsN o=4) else false)=true)=>y48) (An (fun (y50:(bif bif bif bif bif bif bif decide (roomE f 0=0) then decide (stripsE o=0) else false then decide (refuseE f=0) else false then decide (openF o (fitsG o 0 [2,0,0])=0) else false then decide (growE o 0=0) else false then decide (openF f (gapG f 1 3)=0) else false then decide (Span.lo (roomR f 0)=8) && (decide (Span.hi (roomR f 0)=9) && true) else false then decide (stripsN o=4) else false)=true)=>y48) tv))) (An (An (An (zr 1) (An (zr (List.length (refuseL f))) (fun (i51:Nat)=>(fun (y52:i51 < List.length (refuseL f))=>(zr ([iv (List.getD (refuseL f) i51 0)])))))) (An (An (zr 1) (An (zr 1) (fun (i53:Nat)=>(fun (y54:i53 < List.length [3])=>(o7 hpre y48 i53 y54))))) tv)) (An (t40 (refuseL f) ([3])) (An (o8 hpre y48) (Ak 1 (fun (i55:Env)=>tv))))))) (An (An (fun (y56:(bif bif bif bif bif bif bif decide (roomE f 0=0) then decide (stripsE o=0) else false then decide (refuseE f=0) else false then decide (openF o (fitsG o 0 [2,0,0])=0) else false then decide (growE o 0=0) else false then decide (openF f (gapG f 1 3)=0) else false then decide (Span.lo (roomR f 0)=8) && (decide (Span.hi (roomR f 0)=9) && true) else false then decide (stripsN o=4) else false)=true)=>y56) (fun (y57:(bif bif bif bif bif bif bif decide (roomE f 0=0) then decide (stripsE o=0) else false then decide (refuseE f=0) else false then decide (openF o (fitsG o 0 [2,0,0])=0) else false then decide (growE o 0=0) else false then decide (openF f (gapG f 1 3)=0) else false then decide (Span.lo (roomR f 0)=8) && (decide (Span.hi (roomR f 0)=9) && true) else false then decide (stripsN o=4) else false)=false)=>tv)) (Ak 1 (An (fun (y58:(bif bif bif bif bif bif bif bif decide (roomE f 0=0) then decide (stripsE o=0) else false then decide (refuseE f=0) else false then decide (openF o (fitsG o 0 [2,0,0])=0) else false then decide (growE o 0=0) else false then decide (openF f (gapG f 1 3)=0) else false then decide (Span.lo (roomR f 0)=8) && (decide (Span.hi (roomR f 0)=9) && true) else false then decide (stripsN o=4) else false then sameInts (refuseL f) [3] else false)=true)=>(An (Ak 1 tv) tv)) (An (fun (y59:(bif bif bif bif bif bif bif bif decide (roomE f 0=0) then decide (stripsE o=0) else false then decide (refuseE f=0) else false then decide (openF o (fitsG o 0 [2,0,0])=0) else false then decide (growE o 0=0) else false then decide (openF f (gapG f 1 3)=0) else false then decide (Span.lo (roomR f 0)=8) && (decide (Span.hi (roomR f 0)=9) && true) else false then decide (stripsN o=4) else false then sameInts (refuseL f) [3] else false)=true)=>(An (An (fun (y60:(bif bif bif bif bif bif bif bif decide (roomE f 0=0) then decide (stripsE o=0) else false then decide (refuseE f=0) else false then decide (openF o (fitsG o 0 [2,0,0])=0) else false then decide (growE o 0=0) else false then decide (openF f (gapG f 1 3)=0) else false then decide (Span.lo (roomR f 0)=8) && (decide (Span.hi (roomR f 0)=9) && true) else false then decide (stripsN o=4) else false then sameInts (refuseL f) [3] else false)=true)=>y59) (Ak 1 tv)) tv)) (An (An (fun (y61:(bif bif bif bif bif bif bif bif decide (roomE f 0=0) then decide (stripsE o=0) else false then decide (refuseE f=0) else false then decide (openF o (fitsG o 0 [2,0,0])=0) else false then decide (growE o 0=0) else false then decide (openF f (gapG f 1 3)=0) else false then decide (Span.lo (roomR f 0)=8) && (decide (Span.hi (roomR f 0)=9) && true) else false then decide (stripsN o=4) else false then sameInts (refuseL f) [3] else false)=true)=>y61) (fun (y62:(bif bif bif bif bif bif bif bif decide (roomE f 0=0) then decide (stripsE o=0) else false then decide (refuseE f=0) else false then decide (openF o (fitsG o 0 [2,0,0])=0) else false then decide (growE o 0=0) else false then decide (openF f (gapG f 1 3)=0) else false then decide (Span.lo (roomR f 0)=8) && (decide (Span.hi (roomR f 0)=9) && true) else false then decide (stripsN o=4) else false then sameInts (refuseL f) [3] else false)=false)=>tv)) (Ak 1 (An (fun (y63:(bif bif bif bif bif bif bif bif bif decide (roomE f 0=0) then decide (stripsE o=0) else false then decide (refuseE f=0) else false then decide (openF o (fitsG o 0 [2,0,0])=0) else false then decide (growE o 0=0) else false then decide (openF f (gapG f 1 3)=0) else false then decide (Span.lo (roomR f 0)=8) && (decide (Span.hi (roomR f 0)=9) && true) else false then decide (stripsN o=4) else false then sameInts (refuseL f) [3] else false then decide (fitsP o 0 [2,0,0]=3) else false)=true)=>(An (Ak 1 tv) tv)) (An (fun (y64:(bif bif bif bif bif bif bif bif bif decide (roomE f 0=0) then decide (stripsE o=0) else false then decide (refuseE f=0) else false then decide (openF o (fitsG o 0 [2,0,0])=0) else false then decide (growE o 0=0) else false then decide (openF f (gapG f 1 3)=0) else false then decide (Span.lo (roomR f 0)=8) && (decide (Span.hi (roomR f 0)=9) && true) else false then decide (stripsN o=4) else false then sameInts (refuseL f) [3] else false then decide (fitsP o 0 [2,0,0]=3) else false)=true)=>(An (An (fun (y65:(bif bif bif bif bif bif bif bif bif decide (roomE f 0=0) then decide (stripsE o=0) else false then decide (refuseE f=0) else false then decide (openF o (fitsG o 0 [2,0,0])=0) else false then decide (growE o 0=0) else false then decide (openF f (gapG f 1 3)=0) else false then decide (Span.lo (roomR f 0)=8) && (decide (Span.hi (roomR f 0)=9) && true) else false then decide (stripsN o=4) else false then sameInts (refuseL f) [3] else false then decide (fitsP o 0 [2,0,0]=3) else false)=true)=>y64) (Ak 1 tv)) tv)) (An (An (fun (y66:(bif bif bif bif bif bif bif bif bif decide (roomE f 0=0) then decide (stripsE o=0) else false then decide (refuseE f=0) else false then decide (openF o (fitsG o 0 [2,0,0])=0) else false then decide (growE o 0=0) else false then decide (openF f (gapG f 1 3)=0) else false then decide (Span.lo (roomR f 0)=8) && (decide (Span.hi (roomR f 0)=9) && true) else false then decide (stripsN o=4) else false then sameInts (refuseL f) [3] else false then decide (fitsP o 0 [2,0,0]=3) else false)=true)=>y66) (fun (y67:(bif bif bif bif bif bif bif bif bif decide (roomE f 0=0) then decide (stripsE o=0) else false then decide (refuseE f=0) else false then decide (openF o (fitsG o 0 [2,0,0])=0) else false then decide (growE o 0=0) else false then decide (openF f (gapG f 1 3)=0) else false then decide (Span.lo (roomR f 0)=8) && (decide (Span.hi (roomR f 0)=9) && true) else false then decide (stripsN o=4) else false then sameInts (refuseL f) [3] else false then decide (fitsP o 0 [2,0,0]=3) else false)=false)=>tv)) (Ak 1 (An (fun (y68:(bif bif bif bif bif bif bif bif bif bif decide (roomE f 0=0) then decide (stripsE o=0) else false then decide (refuseE f=0) else false then decide (openF o (fitsG o 0 [2,0,0])=0) else false then decide (growE o 0=0) else false then decide (openF f (gapG f 1 3)=0) else false then decide (Span.lo (roomR f 0)=8) && (decide (Span.hi (roomR f 0)=9) && true) else false then decide (stripsN o=4) else false then sameInts (refuseL f) [3] else false then decide (fitsP o 0 [2,0,0]=3) else false then decide (growN o 0=22) else false)=true)=>(An (Ak 1 tv) tv)) (An (fun (y69:(bif bif bif bif bif bif bif bif bif bif decide (roomE f 0=0) then decide (stripsE o=0) else false then decide (refuseE f=0) else false then decide (openF o (fitsG o 0 [2,0,0])=0) else false then decide (growE o 0=0) else false then decide (openF f (gapG f 1 3)=0) else false then decide (Span.lo (roomR f 0)=8) && (decide (Span.hi (roomR f 0)=9) && true) else false then decide (stripsN o=4) else false then sameInts (refuseL f) [3] else false then decide (fitsP o 0 [2,0,0]=3) else false then decide (growN o 0=22) else false)=true)=>(An (Ak 2 tv) tv)) (An (fun (y70:(bif bif bif bif bif bif bif bif bif bif decide (roomE f 0=0) then decide (stripsE o=0) else false then decide (refuseE f=0) else false then decide (openF o (fitsG o 0 [2,0,0])=0) else false then decide (growE o 0=0) else false then decide (openF f (gapG f 1 3)=0) else false then decide (Span.lo (roomR f 0)=8) && (decide (Span.hi (roomR f 0)=9) && true) else false then decide (stripsN o=4) else false then sameInts (refuseL f) [3] else false then decide (fitsP o 0 [2,0,0]=3) else false then decide (growN o 0=22) else false)=true)=>(An (An (fun (y71:(bif bif bif bif bif bif bif bif bif bif decide (roomE f 0=0) then decide (stripsE o=0) else false then decide (refuseE f=0) else false then decide (openF o (fitsG o 0 [2,0,0])=0) else false then decide (growE o 0=0) else false then decide (openF f (gapG f 1 3)=0) else false then decide (Span.lo (roomR f 0)=8) && (decide (Span.hi (roomR f 0)=9) && true) else false then decide (stripsN o=4) else false then sameInts (refuseL f) [3] else false then decide (fitsP o 0 [2,0,0]=3) else false then decide (growN o 0=22) else false)=true)=>y70) (An (fun (y72:(bif bif bif bif bif bif bif bif bif bif decide (roomE f 0=0) then decide (stripsE o=0) else false then decide (refuseE f=0) else false then decide (openF o (fitsG o 0 [2,0,0])=0) else false then decide (growE o 0=0) else false then decide (openF f (gapG f 1 3)=0) else false then decide (Span.lo (roomR f 0)=8) && (decide (Span.hi (roomR f 0)=9) && true) else false then decide (stripsN o=4) else false then sameInts (refuseL f) [3] else false then decide (fitsP o 0 [2,0,0]=3) else false then decide (growN o 0=22) else false)=true)=>y70) tv)) tv)) (An (An (fun (y73:(bif bif bif bif bif bif bif bif bif bif decide (roomE f 0=0) then decide (stripsE o=0) else false then decide (refuseE f=0) else false then decide (openF o (fitsG o 0 [2,0,0])=0) else false then decide (growE o 0=0) else false then decide (openF f (gapG f 1 3)=0) else false then decide (Span.lo (roomR f 0)=8) && (decide (Span.hi (roomR f 0)=9) && true) else false then decide (stripsN o=4) else false then sameInts (refuseL f) [3] else false then decide (fitsP o 0 [2,0,0]=3) else false then decide (growN o 0=22) else false)=true)=>y73) (fun (y74:(bif bif bif bif bif bif bif bif bif bif decide (roomE f 0=0) then decide (stripsE o=0) else false then decide (refuseE f=0) else false then decide (openF o (fitsG o 0 [2,0,0])=0) else false then decide (growE o 0=0) else false then decide (openF f (gapG f 1 3)=0) else false then decide (Span.lo (roomR f 0)=8) && (decide (Span.hi (roomR f 0)=9) && true) else false then decide (stripsN o=4) else false then sameInts (refuseL f) [3] else false then decide (fitsP o 0 [2,0,0]=3) else false then decide (growN o 0=22) else false)=false)=>tv)) (Ak 1 tv)))))))))))))))))))))))))))))))))))))))))))))))) ?_
 refine swp_ret ?_
 exact zT [] (An (Ak 1 tv) (An (An (cb (o9 hpre)) (zr nilN)) (An (zr true) (An (zr true) (zr true)))))
set_option maxRecDepth 4000
theorem x_room:roomR exP 0=⟨8,9⟩/\roomE exP 0=0:=by decide +kernel
theorem x_strips:stripsN exO=4/\stripsE exO=0:=by decide +kernel
theorem x_ref:refuseL exP = [3]/\refuseE exP=0:=by decide +kernel
theorem x_fits:fitsP exO 0 [2,0,0]=3/\openF exO (fitsG exO 0 [2,0,0])=0:=by decide +kernel
theorem x_grow:growN exO 0=22/\growE exO 0=0:=by decide +kernel
theorem x_gap:gapR exP 1 3=⟨19,21⟩/\openF exP (gapG exP 1 3)=0:=by decide +kernel
theorem tw20 (f o:Frm):Triple Try.prog 20 (sw20 f o):=by
 apply w20
 all_goals (rintro ⟨rfl,rfl⟩)
 case o3 =>
  intro i hi
  have:i=0 ∨ i=1 ∨ i=2:=by simp at hi; omega
  rcases this with rfl | rfl | rfl <;> rfl
 case o7 =>
  intro _ i hi
  have:i=0:=by simpa using hi
  subst this; rfl
 case o8=>intro _; decide
 case o9 =>
  obtain ⟨a1,a2⟩:=x_room
  obtain ⟨b1,b2⟩:=x_strips
  obtain ⟨c1,c2⟩:=x_ref
  obtain ⟨d1,d2⟩:=x_fits
  obtain ⟨e1,e2⟩:=x_grow
  obtain ⟨g1,g2⟩:=x_gap
  rw [a1,a2,b1,b2,c1,c2,d1,d2,e1,e2,g1,g2]; (repeat intro _); rfl
 all_goals (first | exact small_exP | exact small_exO | skip)
theorem t20:Triple Try.prog 20 s20:=⟨(tw20 exP exO).1,fun _=>(tw20 exP exO).2 ⟨rfl,rfl⟩⟩
theorem sound_small {f:Frm} (h:Sound f):smallF f:=by
 have h1:=h.strips
 have h2:=h.pieces
 have h3:=h.columns
 exact ⟨by omega,by omega,by omega,fun i=>by have:=h.colLen i; omega⟩
end Go.Ab
namespace Go.Sh
open Go.Ab
variable {f:Frm}
def aheadC (f:Frm) (p:Int):Int:=match aboveN f p with | some c=>c | none=>0
theorem idx_hit {l:List Int} {p:Int} {k:Nat} (hk:k < l.length) (h:∀ j,j < k->decide (l.getD j 0=p)=false) (hp:decide (l.getD k 0=p)=true):idxI l p=k:=by
 unfold idxI
 exact idxW_found hk (fun j hj=>by have:=h j hj; simp only [decide_eq_false_iff_not] at this ⊢; exact fun e=>this e.symm) (by simp only [decide_eq_true_eq] at hp ⊢; exact hp.symm)
theorem idx_none {l:List Int} {p:Int} (h:∀ j,j < l.length->decide (l.getD j 0=p)=false):idxI l p = -1:=by
 unfold idxI
 exact idxW_none (fun j hj=>by have:=h j hj; simp only [decide_eq_false_iff_not] at this ⊢; exact fun e=>this e.symm)
theorem above_next {p:Int} {x:Nat} (h:aboveTo f p x=none) (hi:idxI (col f x) p = -1):aboveTo f p (x + 1)=none:=by
 rw [aboveTo_succ,h,hi]; rfl
theorem idx_mem {l:List Int} {p:Int}:0<=idxI l p ↔ p ∈ l:=by
 unfold idxI
 rcases idxW_spec l (fun w=>decide (p=w)) with ⟨e,h⟩ | ⟨i,e,h1,h2,_⟩
 ·rw [e]
  refine ⟨fun h=>absurd h (by decide),fun hm => ?_⟩
  have:=h p hm
  simp at this
 ·rw [e]
  refine ⟨fun _ => ?_,fun _=>by omega⟩
  simp only [decide_eq_true_eq] at h2
  rw [h2]; exact getD_mem _ _ h1
theorem above_some (h:okFrm f=true) {p:Int} (hp:isPc f p=true):∃ c,aboveN f p=some c:=by
 cases e:aboveN f p with
 | some c=>exact ⟨c,rfl⟩
 | none =>
  exfalso
  unfold aboveN aboveTo at e
  rw [List.find?_eq_none] at e
  have h1:=isPc_get hp
  rw [okFrm_eq,Bool.and_eq_true] at h
  unfold okOrd at h
  simp only [Bool.and_eq_true,List.all_eq_true,List.mem_range,decide_eq_true_eq] at h
  have h2:=h.2.1 p.toNat (by omega)
  rw [cnt_count,show ((p.toNat:Nat):Int)=p by omega] at h2
  have h3:p ∈ allC f:=List.count_pos_iff.1 (by omega)
  unfold allC at h3
  obtain ⟨l,hl,hm⟩:=List.mem_flatten.1 h3
  obtain ⟨c,hc,rfl⟩:=List.getElem_of_mem hl
  refine e c (List.mem_range.2 hc) ?_
  have:col f c=f.columns[c]:=getD_lt _ _ hc
  rw [decide_eq_true_eq,this]
  exact idx_mem.2 hm
theorem ahead_above (h:okFrm f=true) {p:Int} (hp:isPc f p=true):aheadC f p=aboveC f p:=by
 obtain ⟨c,e⟩:=above_some h hp
 unfold aheadC aboveC
 rw [e]
theorem gap_long {a b:Int} (h:aboveC f a=aboveC f b) (hl:(aboveL f b).length < (aboveL f a).length):gapP f a b=⟨-(highP f ((aboveL f a).drop (aboveL f b).length)).hi,-(highP f ((aboveL f a).drop (aboveL f b).length)).lo⟩:=by
 unfold gapP
 rw [gapU_t h,gapU_t h]
 have:sameN f a b=(aboveL f b).length:=by unfold sameN; omega
 rw [this,List.drop_length]
 show (⟨0 - _,0 - _⟩:Span)=_
 rw [Int.zero_sub,Int.zero_sub]
theorem gap_short {a b:Int} (h:aboveC f a=aboveC f b) (hl:¬ (aboveL f b).length < (aboveL f a).length):gapP f a b=highP f ((aboveL f b).drop (aboveL f a).length):=by
 unfold gapP
 rw [gapU_t h,gapU_t h]
 have:sameN f a b=(aboveL f a).length:=by unfold sameN; omega
 rw [this,List.drop_length]
 show (⟨_ - 0,_ - 0⟩:Span)=_
 rw [Int.sub_zero,Int.sub_zero]
theorem gap_apart {a b:Int} (h:¬ aboveC f a=aboveC f b):gapP f a b=⟨(highP f (aboveL f b)).lo - (highP f (aboveL f a)).hi,(highP f (aboveL f b)).hi - (highP f (aboveL f a)).lo⟩:=by
 unfold gapP
 rw [gapU_f h,gapU_f h]
def okLay (l:List (List Int)):Prop:=l.length<=3 /\ ∀ i,(l.getD i []).length<=3 /\ ∀ q,0<=(l.getD i []).getD q 0/\(l.getD i []).getD q 0<=4
theorem sum_sumS (s:List Int):∀ k,k<=s.length->sumI (s.take k)=sumTo s k:=by
 intro k
 induction k with
 | zero=>intro _; rfl
 | succ k ih=>intro h; rw [sumI_take _ (by omega),ih (by omega),sumTo_succ]
theorem sumI_S (s:List Int):sumI s=sumS s:=by
 have:=sum_sumS s s.length (Nat.le_refl _)
 rw [List.take_of_length_le (Nat.le_refl _)] at this
 exact this
theorem sumTo_bound {s:List Int} (h:∀ q,0<=s.getD q 0/\s.getD q 0<=4):∀ k:Nat,0<=sumTo s k/\sumTo s k<=4 * k:=by
 intro k
 induction k with
 | zero=>exact ⟨Int.le_refl _,Int.le_refl _⟩
 | succ k ih=>rw [sumTo_succ]; have:=h k; omega
theorem many_take (l:List (List Int)) {k:Nat} (h:k < l.length):manyL (l.take (k + 1))=manyL (l.take k) + sumI (l.getD k []):=by
 rw [take_succ _ [] h,manyL_append,sumI_S]
 show _ + (sumS _ + 0)=_
 omega
theorem many_bound {l:List (List Int)} (h:okLay l):∀ k,k<=l.length->0<=manyL (l.take k)/\manyL (l.take k)<=12 * k:=by
 intro k
 induction k with
 | zero=>intro _; exact ⟨Int.le_refl _,Int.le_refl _⟩
 | succ k ih =>
  intro hk
  have h1:=ih (by omega)
  rw [many_take _ (by omega),sumI_S]
  have h2:=sumTo_bound (h.2 k).2 (l.getD k []).length
  have h3:=(h.2 k).1
  unfold sumS
  omega
end Go.Sh
namespace Go.Sh
open Go.Ab
variable {f:Frm}
theorem ok_parts (h:okFrm f=true):okHeadF f=true/\(∀ j,j < f.strips.length->okStrip (stp f j)=true)/\(∀ j,j < f.pieces.length->okPiece (pc f j)=true/\cntL (allC f) j=1) /\ ∀ j,j < f.columns.length->(col f j).all (isPc f)=true:=by
 unfold okFrm okOrd at h
 simp only [Bool.and_eq_true,List.all_eq_true,List.mem_range,decide_eq_true_eq] at h
 obtain ⟨⟨⟨h1,h2⟩,h3⟩,h4,h5⟩:=h
 refine ⟨h1,fun j hj=>h2 _ (getD_mem _ _ hj),fun j hj=>⟨h3 _ (getD_mem _ _ hj),h4 j hj⟩,fun j hj => ?_⟩
 rw [List.all_eq_true]
 intro x hx
 refine h5 x ?_
 unfold allC
 exact List.mem_flatten.2 ⟨_,getD_mem _ _ hj,hx⟩
theorem ok_pieces {o:Frm} (h:okFrm f=true) (h1:o.length=f.length) (h2:o.slack=f.slack) (h3:o.strips=f.strips) (h4:o.columns=f.columns) (h5:o.pieces.length=f.pieces.length) (h6:∀ j,j < f.pieces.length->okPiece (pc o j)=true):okFrm o=true:=by
 obtain ⟨g1,g2,g3,g4⟩:=ok_parts h
 refine okFrm_of ?_ (fun j hj => ?_) (fun j hj=>⟨h6 j (by omega),?_⟩) (fun j hj => ?_)
 ·unfold okHeadF at g1 ⊢; rw [h1,h2,h3,h4,h5]; exact g1
 ·unfold stp; rw [h3] at hj ⊢; exact g2 j hj
 ·unfold allC; rw [h4]; exact (g3 j (by omega)).2
 ·rw [h4] at hj
  have:=g4 j hj
  unfold col isPc at this ⊢; rw [h4,h5]; exact this
theorem okPiece_iff {p:Piece}:okPiece p=true ↔ 0<=p.lo/\p.lo<=p.hi/\p.hi<=99/\0<=p.pence/\p.pence<=99:=by
 unfold okPiece
 simp only [Bool.and_eq_true,within_iff]
 omega
theorem grown_ok (h:okFrm f=true) {p:Nat} (hp:p < f.pieces.length) {n:Int} (h1:(pc f p).lo<=n) (h2:n<=99):okFrm (grownF f p n)=true:=by
 refine ok_pieces h rfl rfl rfl rfl (grown_len _ _ _) fun j hj => ?_
 have hs:=sound_of h
 have h3:=hs.piece j hj
 have h4:=hs.piece p hp
 rw [grown_pc n hp,okPiece_iff]
 split
 ·exact ⟨h4.1,h1,h2,h4.2.2.2⟩
 ·exact h3
end Go.Sh
namespace Go.Sh
end Go.Sh
namespace Go.Ab
open Go Go.RowKit Go.Proofs Go.Sh Go.En
def s107 (f:Frm):CallSpec:={ args:=[vFrm f],res:=aInts (stockTo f f.strips.length),pre:=Sound f }
def h107 (f:Frm):Hint:={ X:=Nat,M:=fun n=>[(3,.vec 5000),(4,iv n)],H:=fun n=>[(5000,.vec 3 1 n (fun i=>[iv ((stockTo f n).getD i 0)]))],I:=fun n=>n<=f.strips.length,mu:=fun n=>f.strips.length - n,x0:=(0:Nat),nx:=fun n=>n + 1 }
abbrev hC (f:Frm) (c:Int):Span:=highP f (col f c.toNat)
def s61 (l:List (List Int)):CallSpec:={ args:=[aIntss l],res:=iv (manyL l),pre:=okLay l }
def h61 (l:List (List Int)):Hint:={ X:=Nat,M:=fun i=>[(3,iv (manyL (l.take i))),(4,iv i)],I:=fun i=>i<=l.length,mu:=fun i=>l.length - i,x0:=(0:Nat),nx:=fun i=>i + 1 }
def s75 (f:Frm) (p:Int):CallSpec:={ args:=[vFrm f,iv p],res := .tup [iv (aheadC f p),aInts (aboveL f p)],pre:=Sound f }
def h75a (f:Frm) (p:Int):Hint:={ X:=Nat,M:=fun i=>[(6,iv i)],I:=fun i=>i<=f.columns.length/\aboveTo f p i=none,mu:=fun i=>f.columns.length - i,x0:=(0:Nat),nx:=fun i=>i + 1 }
def h75b (f:Frm) (p:Int) (c:Nat):Hint:={ X:=Nat,M:=fun k=>[(7,iv k)],I:=fun k=>k<=(col f c).length /\ ∀ j,j < k->decide ((col f c).getD j 0=p)=false,mu:=fun k=>(col f c).length - k,x0:=(0:Nat),nx:=fun k=>k + 1 }
def s123 (f:Frm) (a b:Int):CallSpec:={ args:=[vFrm f,iv a,iv b],res:=vSpan (gapP f a b),pre:=okFrm f=true/\isPc f a=true/\isPc f b=true }
def c123a (f:Frm) (a b:Int):CallSpec:=s92 f ((aboveL f a).drop (aboveL f b).length)
def c123b (f:Frm) (a b:Int):CallSpec:=s92 f ((aboveL f b).drop (aboveL f a).length)
def s66 (f:Frm) (a b:Int):CallSpec:={ args:=[vFrm f,iv a,iv b],res := .tup [vSpan (gapR f a b),iv (openF f (gapG f a b))],pre:=fitsF f }
def s68 (f:Frm) (a b:Int):CallSpec:={ args:=[vFrm f,iv a,iv b],res := .tup [iv (meetsP f a b),iv (openF f (gapG f a b))],pre:=fitsF f }
def s29 (f:Frm) (p n:Int):CallSpec:={ args:=[vFrm f,iv p,iv n],res:=vFrm (grownF f p.toNat n),pre:=smallF f/\0<=p/\p < f.pieces.length }
def c29 (f:Frm) (p n:Int) (id:Nat):CallSpec:=s31o f id
def s79 (a:List (List Int)):CallSpec:={ args:=[aIntss a,aIntss a],res:=bv true,pre:=a.length<=64 /\ ∀ i,(a.getD i []).length<=64 }
def h79 (a:List (List Int)):Hint:={ X:=Nat,M:=fun i=>[(5,iv i)],I:=fun i=>i<=a.length,mu:=fun i=>a.length - i,x0:=(0:Nat),nx:=fun i=>i + 1 }
def s39 (f:Frm):CallSpec:={ args:=[vFrm f,vFrm f],res:=bv true,pre:=smallF f }
def h39a (f:Frm):Hint:={ X:=Nat,M:=fun i=>[(5,iv i)],I:=fun i=>i<=f.strips.length,mu:=fun i=>f.strips.length - i,x0:=(0:Nat),nx:=fun i=>i + 1 }
def h39b (f:Frm):Hint:={ X:=Nat,M:=fun i=>[(6,iv i)],I:=fun i=>i<=f.pieces.length,mu:=fun i=>f.pieces.length - i,x0:=(0:Nat),nx:=fun i=>i + 1 }
end Go.Ab
namespace Go.Ab
open Go Go.RowKit Go.Proofs Go.Sh Go.En
theorem w107 (f:Frm)
  (o0:Sound f->0=(↑0:Int))
  (o1:Sound f->0<=List.length (Frm.strips f))
  (o2:Sound f -> ∀ (x0:Nat),x0<=List.length (Frm.strips f)->decide ((↑x0:Int) < (↑(List.length (Frm.strips f)):Int))=true->0<=(↑x0:Int))
  (o3:Sound f -> ∀ (x0:Nat),x0<=List.length (Frm.strips f)->decide ((↑x0:Int) < (↑(List.length (Frm.strips f)):Int))=true->(↑x0:Int) < (↑(List.length (Frm.strips f)):Int))
  (o4:Sound f -> ∀ (x0:Nat),x0<=List.length (Frm.strips f)->decide ((↑x0:Int) < (↑(List.length (Frm.strips f)):Int))=true->x0 + 1<=65536)
  (o5:Sound f -> ∀ (x0:Nat),x0<=List.length (Frm.strips f)->decide ((↑x0:Int) < (↑(List.length (Frm.strips f)):Int))=true->inI ((↑x0:Int) + 1))
  (o6:Sound f -> ∀ (x0:Nat),x0<=List.length (Frm.strips f)->decide ((↑x0:Int) < (↑(List.length (Frm.strips f)):Int))=true->(↑x0:Int) + 1=(↑(x0 + 1):Int))
  (o7:Sound f -> ∀ (x0:Nat),x0<=List.length (Frm.strips f)->decide ((↑x0:Int) < (↑(List.length (Frm.strips f)):Int))=true -> ∀ (i2:Nat),i2 < x0 + 1->catF x0 (fun (i:Nat)=>[iv (List.getD (stockTo f x0) i 0)]) (fun (j:Nat)=>List.getD [[iv (Strip.many (stp f x0))]] j (TI.za ti3)) i2 = [iv (List.getD (stockTo f (x0 + 1)) i2 0)])
  (o8:Sound f -> ∀ (x0:Nat),x0<=List.length (Frm.strips f)->decide ((↑x0:Int) < (↑(List.length (Frm.strips f)):Int))=true->x0 + 1<=List.length (Frm.strips f))
  (o9:Sound f -> ∀ (x0:Nat),x0<=List.length (Frm.strips f)->decide ((↑x0:Int) < (↑(List.length (Frm.strips f)):Int))=true->List.length (Frm.strips f) - (x0 + 1) < List.length (Frm.strips f) - x0)
  (o10:Sound f -> ∀ (x0:Nat),x0<=List.length (Frm.strips f)->decide ((↑x0:Int) < (↑(List.length (Frm.strips f)):Int))=false->x0=List.length (stockTo f (List.length (Frm.strips f))))
  (o11:Sound f -> ∀ (x0:Nat),x0<=List.length (Frm.strips f)->decide ((↑x0:Int) < (↑(List.length (Frm.strips f)):Int))=false -> ∀ (i4:Nat),i4 < List.length (stockTo f (List.length (Frm.strips f))) -> [iv (List.getD (stockTo f x0) i4 0)] = [iv (List.getD (stockTo f (List.length (Frm.strips f))) i4 0)]) :
  Triple Try.prog 107 (s107 f):=by
 refine triple_of Try.func107 rfl Try.call107 T0_ok _ rfl rfl rfl rfl (Nat.le_of_ble_eq_true (by kernel_rfl)) (fun _ _ _ _ h=>h) ?_
 intro hpre C hC _ hE
 obtain ⟨P,w0,E0,av,hA,ro,df⟩:=C
 obtain ⟨rfl,rfl,rfl⟩:=hC
 refine swp_seq ?_
 refine zR [1] [0] (Ak 2 tv) ?_
 refine swp_seq ?_
 refine zR [1,3] [0] (Ak 1 tv) ?_
 refine swp_seq ?_
 refine swp_seq ?_
 refine zR [1,3,4] [0] (Ak 1 tv) ?_
 refine swp_block ?_
 refine zL (Hint.ann (h107 f) [(1,AV.ptr 0 [])] [(0,OB.cells 26 (cFrm f))] 10032) (zE hE [] [(0,.same 0),(5000,.nil)] [] [0] (An (An (An (zr (some (Src.same 0))) (zr nilP)) (An (zr (some Src.nil)) (An (An (ci (o0 hpre)) (zr nilN)) tv))) (An (An (An (zr (OB.cells 26 (cFrm f))) (zr true)) (An (zr 0) tv)) (An (zr true) (zr true))))) (o1 hpre) (fun (x0:Nat) hx0 => ?_)
 refine swp_seq ?_
 refine swp_seq ?_
 refine zR [1,3,4,9] [0,5000] (Ak 5 tv) ?_
 refine zI (decide ((↑x0:Int) < (↑(List.length (Frm.strips f)):Int))) (fun y1 => ?_) (fun y1 => ?_)
 ·refine swp_skip ?_
  refine swp_seq ?_
  refine swp_block ?_
  refine zR [1,3,4] [0,10136] (Ak 4 (An (An (o2 hpre x0 hx0 y1) (o3 hpre x0 hx0 y1)) (Ak 3 (An (o4 hpre x0 hx0 y1) (Ak 1 tv))))) ?_
  refine zR [1,3,4] [0,10136] (Ak 1 (An (o5 hpre x0 hx0 y1) (Ak 1 tv))) ?_
  exact zn (zE hE [] [(0,.same 0),(5000,.same 10136)] [] [0] (An (An (An (zr (some (Src.same 0))) (zr nilP)) (An (zr (some (Src.same 10136))) (An (An (ci (o6 hpre x0 hx0 y1)) (zr nilN)) tv))) (An (An (An (zr (OB.cells 26 (cFrm f))) (zr true)) (An (An (zr 3) (An (zr 1) (An (zr (x0 + 1)) (fun (i2:Nat)=>(fun (y3:i2 < x0 + 1)=>(o7 hpre x0 hx0 y1 i2 y3)))))) tv)) (An (zr true) (zr true))))) (o8 hpre x0 hx0 y1) (o9 hpre x0 hx0 y1)
 ·refine swp_exit ?_
  refine swp_seq ?_
  refine zR [2] [5000] (Ak 2 tv) ?_
  refine swp_ret ?_
  exact zT [5000] (An (Ak 1 tv) (An (An (zr 1) (An (o10 hpre x0 hx0 y1) (fun (i4:Nat)=>(fun (y5:i4 < List.length (stockTo f (List.length (Frm.strips f))))=>(o11 hpre x0 hx0 y1 i4 y5))))) (An (zr true) (An (zr true) (zr true)))))
theorem t107 (f:Frm):Triple Try.prog 107 (s107 f):=by
 apply w107
 all_goals (intro hs; have hl:=hs.strips)
 case o0=>rfl
 case o1=>omega
 all_goals (intro x hx h; simp only [decide_eq_true_eq,decide_eq_false_iff_not] at h)
 case o7=>intro i hi; rw [stock_succ]; exact catF_one _ _ 0 (fun z=>[iv z]) (stock_len _ _).symm (fun _ _=>rfl) rfl (by rw [stock_len]; exact hi)
 case o10=>rw [stock_len]; omega
 case o11=>intro i hi; rw [show x=f.strips.length by omega]
 all_goals (first | omega | (simp only [inI]; omega))
theorem chk_bad {f:Frm} (h:(!decide (checkF f=0))=true):okFrm f=false:=by
 simp only [Bool.not_eq_true',decide_eq_false_iff_not] at h
 cases e:okFrm f with
 | false=>rfl
 | true=>exact absurd (check_good e) h
theorem chk_ok {f:Frm} (h:(!decide (checkF f=0))=false):okFrm f=true:=by
 simp only [Bool.not_eq_false',decide_eq_true_eq] at h
 exact check_zero.1 h
theorem w61 (l:List (List Int))
  (o0:okLay l->0=manyL (List.take 0 l))
  (o1:okLay l->0=(↑0:Int))
  (o2:okLay l->0<=List.length l)
  (o3:okLay l -> ∀ (x0:Nat),x0<=List.length l->decide ((↑x0:Int) < (↑(List.length l):Int))=true->0<=(↑x0:Int))
  (o4:okLay l -> ∀ (x0:Nat),x0<=List.length l->decide ((↑x0:Int) < (↑(List.length l):Int))=true->(↑x0:Int) < (↑(List.length l):Int))
  (o5:okLay l -> ∀ (x0:Nat),x0<=List.length l->decide ((↑x0:Int) < (↑(List.length l):Int))=true->List.length (List.getD l x0 [])<=big)
  (o6:okLay l -> ∀ (x0:Nat),x0<=List.length l->decide ((↑x0:Int) < (↑(List.length l):Int))=true -> ∀ (i2:Nat),i2<=List.length (List.getD l x0 [])->inI (sumI (List.take i2 (List.getD l x0 []))))
  (o7:okLay l -> ∀ (x0:Nat),x0<=List.length l->decide ((↑x0:Int) < (↑(List.length l):Int))=true->inI (manyL (List.take x0 l) + sumI (List.getD l x0 [])))
  (o8:okLay l -> ∀ (x0:Nat),x0<=List.length l->decide ((↑x0:Int) < (↑(List.length l):Int))=true->inI ((↑x0:Int) + 1))
  (o9:okLay l -> ∀ (x0:Nat),x0<=List.length l->decide ((↑x0:Int) < (↑(List.length l):Int))=true->manyL (List.take x0 l) + sumI (List.getD l x0 [])=manyL (List.take (x0 + 1) l))
  (o10:okLay l -> ∀ (x0:Nat),x0<=List.length l->decide ((↑x0:Int) < (↑(List.length l):Int))=true->(↑x0:Int) + 1=(↑(x0 + 1):Int))
  (o11:okLay l -> ∀ (x0:Nat),x0<=List.length l->decide ((↑x0:Int) < (↑(List.length l):Int))=true->x0 + 1<=List.length l)
  (o12:okLay l -> ∀ (x0:Nat),x0<=List.length l->decide ((↑x0:Int) < (↑(List.length l):Int))=true->List.length l - (x0 + 1) < List.length l - x0)
  (o13:okLay l -> ∀ (x0:Nat),x0<=List.length l->decide ((↑x0:Int) < (↑(List.length l):Int))=false->manyL (List.take x0 l)=manyL l) :
  Triple Try.prog 61 (s61 l):=by
 refine triple_of Try.func61 rfl Try.call61 T0_ok _ rfl rfl rfl rfl (Nat.le_of_ble_eq_true (by kernel_rfl)) (fun _ _ _ _ h=>h) ?_
 intro hpre C hC _ hE
 obtain ⟨P,w0,E0,av,hA,ro,df⟩:=C
 obtain ⟨rfl,rfl,rfl⟩:=hC
 refine swp_seq ?_
 refine zR [0] [] (Ak 1 tv) ?_
 refine swp_seq ?_
 refine zR [0,3] [] (Ak 1 tv) ?_
 refine swp_seq ?_
 refine swp_seq ?_
 refine zR [0,3,4] [] (Ak 1 tv) ?_
 refine swp_block ?_
 refine zL (Hint.ann (h61 l) [(0,aIntss l)] [] 10024) (zE hE [] [] [0] [] (An (An (An (zr (aIntss l)) (zr true)) (An (An (ci (o0 hpre)) (zr nilN)) (An (An (ci (o1 hpre)) (zr nilN)) tv))) (Ak 1 (An (zr true) (zr true))))) (o2 hpre) (fun (x0:Nat) hx0 => ?_)
 refine swp_seq ?_
 refine swp_seq ?_
 refine zR [0,3,4,8] [] (Ak 4 tv) ?_
 refine zI (decide ((↑x0:Int) < (↑(List.length l):Int))) (fun y1 => ?_) (fun y1 => ?_)
 ·refine swp_skip ?_
  refine swp_seq ?_
  refine swp_block ?_
  refine zC ([(5,CallSpec.eq (s113 (List.getD l x0 [])) [true])]) [0,3,4] [] (Ak 3 (An (An (o3 hpre x0 hx0 y1) (o4 hpre x0 hx0 y1)) (Ak 1 (An (An (An (zr (aInts (List.getD l x0 []))) tv) (An (t113 (List.getD l x0 [])) (An (An (o5 hpre x0 hx0 y1) (fun (i2:Nat)=>(fun (y3:i2<=List.length (List.getD l x0 []))=>(o6 hpre x0 hx0 y1 i2 y3)))) (Ak 1 (fun (i4:Env)=>tv))))) (An (o7 hpre x0 hx0 y1) (Ak 1 tv)))))) ?_
  refine zR [0,3,4] [] (Ak 1 (An (o8 hpre x0 hx0 y1) (Ak 1 tv))) ?_
  exact zn (zE hE [] [] [0] [] (An (An (An (zr (aIntss l)) (zr true)) (An (An (ci (o9 hpre x0 hx0 y1)) (zr nilN)) (An (An (ci (o10 hpre x0 hx0 y1)) (zr nilN)) tv))) (Ak 1 (An (zr true) (zr true))))) (o11 hpre x0 hx0 y1) (o12 hpre x0 hx0 y1)
 ·refine swp_exit ?_
  refine swp_seq ?_
  refine zR [2] [] (Ak 2 tv) ?_
  refine swp_ret ?_
  exact zT [] (An (Ak 1 tv) (An (An (ci (o13 hpre x0 hx0 y1)) (zr nilN)) (An (zr true) (An (zr true) (zr true)))))
theorem t61 (l:List (List Int)):Triple Try.prog 61 (s61 l):=by
 apply w61
 all_goals (intro hl; have hlen:=hl.1)
 case o0 | o1=>rfl
 case o2=>omega
 all_goals (intro x hx h; simp only [decide_eq_true_eq,decide_eq_false_iff_not] at h)
 case o13=>rw [List.take_of_length_le (by omega)]
 all_goals (have h2:=hl.2 x)
 case o5=>have:=h2.1; simp only [big]; omega
 case o6=>intro k hk; rw [sum_sumS _ _ hk]; have:=sumTo_bound h2.2 k; simp only [inI]; omega
 case o9=>exact (many_take l (by omega)).symm
 case o7=>have h3:=many_bound hl (x + 1) (by omega); rw [many_take l (by omega)] at h3; simp only [inI]; omega
 all_goals (first | omega | (simp only [inI]; omega))
theorem w75 (f:Frm) (p:Int)
  (o0:Sound f->0=(↑0:Int))
  (o1:Sound f->0<=List.length (Frm.columns f)/\aboveTo f p 0=none)
  (o2:Sound f -> ∀ (x0:Nat),x0<=List.length (Frm.columns f)/\aboveTo f p x0=none->decide ((↑x0:Int) < (↑(List.length (Frm.columns f)):Int))=true->0=(↑0:Int))
  (o3:Sound f -> ∀ (x0:Nat),x0<=List.length (Frm.columns f)/\aboveTo f p x0=none->decide ((↑x0:Int) < (↑(List.length (Frm.columns f)):Int))=true->0<=List.length (col f x0) /\ ∀ (j:Nat),j < 0->decide (List.getD (col f x0) j 0=p)=false)
  (o4:Sound f -> ∀ (x0:Nat),x0<=List.length (Frm.columns f)/\aboveTo f p x0=none->decide ((↑x0:Int) < (↑(List.length (Frm.columns f)):Int))=true -> ∀ (x2:Nat),(x2<=List.length (col f x0) /\ ∀ (j:Nat),j < x2->decide (List.getD (col f x0) j 0=p)=false)->0<=(↑x0:Int))
  (o5:Sound f -> ∀ (x0:Nat),x0<=List.length (Frm.columns f)/\aboveTo f p x0=none->decide ((↑x0:Int) < (↑(List.length (Frm.columns f)):Int))=true -> ∀ (x2:Nat),(x2<=List.length (col f x0) /\ ∀ (j:Nat),j < x2->decide (List.getD (col f x0) j 0=p)=false)->(↑x0:Int) < (↑(List.length (Frm.columns f)):Int))
  (o6:Sound f -> ∀ (x0:Nat),x0<=List.length (Frm.columns f)/\aboveTo f p x0=none->decide ((↑x0:Int) < (↑(List.length (Frm.columns f)):Int))=true -> ∀ (x2:Nat),(x2<=List.length (col f x0) /\ ∀ (j:Nat),j < x2->decide (List.getD (col f x0) j 0=p)=false)->decide ((↑x2:Int) < (↑(List.length (col f x0)):Int))=true->0<=(↑x0:Int))
  (o7:Sound f -> ∀ (x0:Nat),x0<=List.length (Frm.columns f)/\aboveTo f p x0=none->decide ((↑x0:Int) < (↑(List.length (Frm.columns f)):Int))=true -> ∀ (x2:Nat),(x2<=List.length (col f x0) /\ ∀ (j:Nat),j < x2->decide (List.getD (col f x0) j 0=p)=false)->decide ((↑x2:Int) < (↑(List.length (col f x0)):Int))=true->(↑x0:Int) < (↑(List.length (Frm.columns f)):Int))
  (o8:Sound f -> ∀ (x0:Nat),x0<=List.length (Frm.columns f)/\aboveTo f p x0=none->decide ((↑x0:Int) < (↑(List.length (Frm.columns f)):Int))=true -> ∀ (x2:Nat),(x2<=List.length (col f x0) /\ ∀ (j:Nat),j < x2->decide (List.getD (col f x0) j 0=p)=false)->decide ((↑x2:Int) < (↑(List.length (col f x0)):Int))=true->0<=(↑x2:Int))
  (o9:Sound f -> ∀ (x0:Nat),x0<=List.length (Frm.columns f)/\aboveTo f p x0=none->decide ((↑x0:Int) < (↑(List.length (Frm.columns f)):Int))=true -> ∀ (x2:Nat),(x2<=List.length (col f x0) /\ ∀ (j:Nat),j < x2->decide (List.getD (col f x0) j 0=p)=false)->decide ((↑x2:Int) < (↑(List.length (col f x0)):Int))=true->(↑x2:Int) < (↑(List.length (col f x0)):Int))
  (o10:Sound f -> ∀ (x0:Nat),x0<=List.length (Frm.columns f)/\aboveTo f p x0=none->decide ((↑x0:Int) < (↑(List.length (Frm.columns f)):Int))=true -> ∀ (x2:Nat),(x2<=List.length (col f x0) /\ ∀ (j:Nat),j < x2->decide (List.getD (col f x0) j 0=p)=false)->decide ((↑x2:Int) < (↑(List.length (col f x0)):Int))=true->decide (List.getD (col f x0) x2 0=p)=true->0<=(↑x0:Int))
  (o11:Sound f -> ∀ (x0:Nat),x0<=List.length (Frm.columns f)/\aboveTo f p x0=none->decide ((↑x0:Int) < (↑(List.length (Frm.columns f)):Int))=true -> ∀ (x2:Nat),(x2<=List.length (col f x0) /\ ∀ (j:Nat),j < x2->decide (List.getD (col f x0) j 0=p)=false)->decide ((↑x2:Int) < (↑(List.length (col f x0)):Int))=true->decide (List.getD (col f x0) x2 0=p)=true->(↑x0:Int) < (↑(List.length (Frm.columns f)):Int))
  (o12:Sound f -> ∀ (x0:Nat),x0<=List.length (Frm.columns f)/\aboveTo f p x0=none->decide ((↑x0:Int) < (↑(List.length (Frm.columns f)):Int))=true -> ∀ (x2:Nat),(x2<=List.length (col f x0) /\ ∀ (j:Nat),j < x2->decide (List.getD (col f x0) j 0=p)=false)->decide ((↑x2:Int) < (↑(List.length (col f x0)):Int))=true->decide (List.getD (col f x0) x2 0=p)=true->0<=(↑x2:Int))
  (o13:Sound f -> ∀ (x0:Nat),x0<=List.length (Frm.columns f)/\aboveTo f p x0=none->decide ((↑x0:Int) < (↑(List.length (Frm.columns f)):Int))=true -> ∀ (x2:Nat),(x2<=List.length (col f x0) /\ ∀ (j:Nat),j < x2->decide (List.getD (col f x0) j 0=p)=false)->decide ((↑x2:Int) < (↑(List.length (col f x0)):Int))=true->decide (List.getD (col f x0) x2 0=p)=true->(↑x2:Int)<=(↑(List.length (col f x0)):Int))
  (o14:Sound f -> ∀ (x0:Nat),x0<=List.length (Frm.columns f)/\aboveTo f p x0=none->decide ((↑x0:Int) < (↑(List.length (Frm.columns f)):Int))=true -> ∀ (x2:Nat),(x2<=List.length (col f x0) /\ ∀ (j:Nat),j < x2->decide (List.getD (col f x0) j 0=p)=false)->decide ((↑x2:Int) < (↑(List.length (col f x0)):Int))=true->decide (List.getD (col f x0) x2 0=p)=true->0 + x2<=65536)
  (o15:Sound f -> ∀ (x0:Nat),x0<=List.length (Frm.columns f)/\aboveTo f p x0=none->decide ((↑x0:Int) < (↑(List.length (Frm.columns f)):Int))=true -> ∀ (x2:Nat),(x2<=List.length (col f x0) /\ ∀ (j:Nat),j < x2->decide (List.getD (col f x0) j 0=p)=false)->decide ((↑x2:Int) < (↑(List.length (col f x0)):Int))=true->decide (List.getD (col f x0) x2 0=p)=true->(↑x0:Int)=aheadC f p)
  (o16:Sound f -> ∀ (x0:Nat),x0<=List.length (Frm.columns f)/\aboveTo f p x0=none->decide ((↑x0:Int) < (↑(List.length (Frm.columns f)):Int))=true -> ∀ (x2:Nat),(x2<=List.length (col f x0) /\ ∀ (j:Nat),j < x2->decide (List.getD (col f x0) j 0=p)=false)->decide ((↑x2:Int) < (↑(List.length (col f x0)):Int))=true->decide (List.getD (col f x0) x2 0=p)=true->0 + x2=List.length (aboveL f p))
  (o17:Sound f -> ∀ (x0:Nat),x0<=List.length (Frm.columns f)/\aboveTo f p x0=none->decide ((↑x0:Int) < (↑(List.length (Frm.columns f)):Int))=true -> ∀ (x2:Nat),(x2<=List.length (col f x0) /\ ∀ (j:Nat),j < x2->decide (List.getD (col f x0) j 0=p)=false)->decide ((↑x2:Int) < (↑(List.length (col f x0)):Int))=true->decide (List.getD (col f x0) x2 0=p)=true -> ∀ (i5:Nat),i5 < List.length (aboveL f p) -> [iv (List.getD (col f x0) i5 0)] = [iv (List.getD (aboveL f p) i5 0)])
  (o18:Sound f -> ∀ (x0:Nat),x0<=List.length (Frm.columns f)/\aboveTo f p x0=none->decide ((↑x0:Int) < (↑(List.length (Frm.columns f)):Int))=true -> ∀ (x2:Nat),(x2<=List.length (col f x0) /\ ∀ (j:Nat),j < x2->decide (List.getD (col f x0) j 0=p)=false)->decide ((↑x2:Int) < (↑(List.length (col f x0)):Int))=true->decide (List.getD (col f x0) x2 0=p)=false->inI ((↑x2:Int) + 1))
  (o19:Sound f -> ∀ (x0:Nat),x0<=List.length (Frm.columns f)/\aboveTo f p x0=none->decide ((↑x0:Int) < (↑(List.length (Frm.columns f)):Int))=true -> ∀ (x2:Nat),(x2<=List.length (col f x0) /\ ∀ (j:Nat),j < x2->decide (List.getD (col f x0) j 0=p)=false)->decide ((↑x2:Int) < (↑(List.length (col f x0)):Int))=true->decide (List.getD (col f x0) x2 0=p)=false->(↑x2:Int) + 1=(↑(x2 + 1):Int))
  (o20:Sound f -> ∀ (x0:Nat),x0<=List.length (Frm.columns f)/\aboveTo f p x0=none->decide ((↑x0:Int) < (↑(List.length (Frm.columns f)):Int))=true -> ∀ (x2:Nat),(x2<=List.length (col f x0) /\ ∀ (j:Nat),j < x2->decide (List.getD (col f x0) j 0=p)=false)->decide ((↑x2:Int) < (↑(List.length (col f x0)):Int))=true->decide (List.getD (col f x0) x2 0=p)=false->x2 + 1<=List.length (col f x0) /\ ∀ (j:Nat),j < x2 + 1->decide (List.getD (col f x0) j 0=p)=false)
  (o21:Sound f -> ∀ (x0:Nat),x0<=List.length (Frm.columns f)/\aboveTo f p x0=none->decide ((↑x0:Int) < (↑(List.length (Frm.columns f)):Int))=true -> ∀ (x2:Nat),(x2<=List.length (col f x0) /\ ∀ (j:Nat),j < x2->decide (List.getD (col f x0) j 0=p)=false)->decide ((↑x2:Int) < (↑(List.length (col f x0)):Int))=true->decide (List.getD (col f x0) x2 0=p)=false->List.length (col f x0) - (x2 + 1) < List.length (col f x0) - x2)
  (o22:Sound f -> ∀ (x0:Nat),x0<=List.length (Frm.columns f)/\aboveTo f p x0=none->decide ((↑x0:Int) < (↑(List.length (Frm.columns f)):Int))=true -> ∀ (x2:Nat),(x2<=List.length (col f x0) /\ ∀ (j:Nat),j < x2->decide (List.getD (col f x0) j 0=p)=false)->decide ((↑x2:Int) < (↑(List.length (col f x0)):Int))=false->inI ((↑x0:Int) + 1))
  (o23:Sound f -> ∀ (x0:Nat),x0<=List.length (Frm.columns f)/\aboveTo f p x0=none->decide ((↑x0:Int) < (↑(List.length (Frm.columns f)):Int))=true -> ∀ (x2:Nat),(x2<=List.length (col f x0) /\ ∀ (j:Nat),j < x2->decide (List.getD (col f x0) j 0=p)=false)->decide ((↑x2:Int) < (↑(List.length (col f x0)):Int))=false->(↑x0:Int) + 1=(↑(x0 + 1):Int))
  (o24:Sound f -> ∀ (x0:Nat),x0<=List.length (Frm.columns f)/\aboveTo f p x0=none->decide ((↑x0:Int) < (↑(List.length (Frm.columns f)):Int))=true -> ∀ (x2:Nat),(x2<=List.length (col f x0) /\ ∀ (j:Nat),j < x2->decide (List.getD (col f x0) j 0=p)=false)->decide ((↑x2:Int) < (↑(List.length (col f x0)):Int))=false->x0 + 1<=List.length (Frm.columns f)/\aboveTo f p (x0 + 1)=none)
  (o25:Sound f -> ∀ (x0:Nat),x0<=List.length (Frm.columns f)/\aboveTo f p x0=none->decide ((↑x0:Int) < (↑(List.length (Frm.columns f)):Int))=true -> ∀ (x2:Nat),(x2<=List.length (col f x0) /\ ∀ (j:Nat),j < x2->decide (List.getD (col f x0) j 0=p)=false)->decide ((↑x2:Int) < (↑(List.length (col f x0)):Int))=false->List.length (Frm.columns f) - (x0 + 1) < List.length (Frm.columns f) - x0)
  (o26:Sound f -> ∀ (x0:Nat),x0<=List.length (Frm.columns f)/\aboveTo f p x0=none->decide ((↑x0:Int) < (↑(List.length (Frm.columns f)):Int))=false->0=aheadC f p)
  (o27:Sound f -> ∀ (x0:Nat),x0<=List.length (Frm.columns f)/\aboveTo f p x0=none->decide ((↑x0:Int) < (↑(List.length (Frm.columns f)):Int))=false->List.length (aboveL f p)=0) :
  Triple Try.prog 75 (s75 f p):=by
 refine triple_of Try.func75 rfl Try.call75 T0_ok _ rfl rfl rfl rfl (Nat.le_of_ble_eq_true (by kernel_rfl)) (fun _ _ _ _ h=>h) ?_
 intro hpre C hC _ hE
 obtain ⟨P,w0,E0,av,hA,ro,df⟩:=C
 obtain ⟨rfl,rfl,rfl⟩:=hC
 refine swp_seq ?_
 refine zR [1,2] [0] (Ak 3 tv) ?_
 refine swp_seq ?_
 refine swp_seq ?_
 refine zR [1,2,6] [0] (Ak 1 tv) ?_
 refine swp_block ?_
 refine zL (Hint.ann (h75a f p) [(1,iv p),(2,AV.ptr 0 [])] [(0,OB.cells 26 (cFrm f))] 10032) (zE hE [] [(0,.same 0)] [1] [0] (An (An (An (zr (iv p)) (zr true)) (An (An (zr (some (Src.same 0))) (zr nilP)) (An (An (ci (o0 hpre)) (zr nilN)) tv))) (An (An (An (zr (OB.cells 26 (cFrm f))) (zr true)) tv) (An (zr true) (zr true))))) (o1 hpre) (fun (x0:Nat) hx0 => ?_)
 refine swp_seq ?_
 refine swp_seq ?_
 refine zR [1,2,6,12] [0] (Ak 5 tv) ?_
 refine zI (decide ((↑x0:Int) < (↑(List.length (Frm.columns f)):Int))) (fun y1 => ?_) (fun y1 => ?_)
 ·refine swp_skip ?_
  refine swp_seq ?_
  refine swp_block ?_
  refine swp_seq ?_
  refine zR [1,2,6,7] [0] (Ak 1 tv) ?_
  refine swp_block ?_
  refine zL (Hint.ann (h75b f p x0) [(1,iv p),(2,AV.ptr 0 []),(6,iv (↑x0:Int))] [(0,OB.cells 26 (cFrm f))] 20080) (zE hE [] [(0,.same 0)] [1,6] [0] (An (An (An (zr (iv p)) (zr true)) (An (An (zr (some (Src.same 0))) (zr nilP)) (An (An (zr (iv (↑x0:Int))) (zr true)) (An (An (ci (o2 hpre x0 hx0 y1)) (zr nilN)) tv)))) (An (An (An (zr (OB.cells 26 (cFrm f))) (zr true)) tv) (An (zr true) (zr true))))) (o3 hpre x0 hx0 y1) (fun (x2:Nat) hx2 => ?_)
  refine swp_seq ?_
  refine swp_seq ?_
  refine zR [1,2,6,7,22] [0] (Ak 4 (An (An (o4 hpre x0 hx0 y1 x2 hx2) (o5 hpre x0 hx0 y1 x2 hx2)) (Ak 3 tv))) ?_
  refine zI (decide ((↑x2:Int) < (↑(List.length (col f x0)):Int))) (fun y3 => ?_) (fun y3 => ?_)
  ·refine swp_skip ?_
   refine swp_seq ?_
   refine swp_block ?_
   refine swp_seq ?_
   refine zR [1,2,6,7,34] [0] (Ak 3 (An (An (o6 hpre x0 hx0 y1 x2 hx2 y3) (o7 hpre x0 hx0 y1 x2 hx2 y3)) (Ak 2 (An (An (o8 hpre x0 hx0 y1 x2 hx2 y3) (o9 hpre x0 hx0 y1 x2 hx2 y3)) (Ak 3 tv))))) ?_
   refine zI (decide (List.getD (col f x0) x2 0=p)) (fun y4 => ?_) (fun y4 => ?_)
   ·refine swp_seq ?_
    refine zR [4,5] [20296] (Ak 5 (An (An (o10 hpre x0 hx0 y1 x2 hx2 y3 y4) (o11 hpre x0 hx0 y1 x2 hx2 y3 y4)) (Ak 2 (An (An (o12 hpre x0 hx0 y1 x2 hx2 y3 y4) (o13 hpre x0 hx0 y1 x2 hx2 y3 y4)) (An (o14 hpre x0 hx0 y1 x2 hx2 y3 y4) (Ak 2 tv)))))) ?_
    refine swp_ret ?_
    exact zT [20296] (An (Ak 2 tv) (An (An (An (ci (o15 hpre x0 hx0 y1 x2 hx2 y3 y4)) (zr nilN)) (An (An (zr 1) (An (o16 hpre x0 hx0 y1 x2 hx2 y3 y4) (fun (i5:Nat)=>(fun (y6:i5 < List.length (aboveL f p))=>(o17 hpre x0 hx0 y1 x2 hx2 y3 y4 i5 y6))))) tv)) (An (zr true) (An (zr true) (zr true)))))
   ·refine swp_skip ?_
    refine zR [1,2,6,7] [0] (Ak 1 (An (o18 hpre x0 hx0 y1 x2 hx2 y3 y4) (Ak 1 tv))) ?_
    exact zn (zE hE [] [(0,.same 0)] [1,6] [0] (An (An (An (zr (iv p)) (zr true)) (An (An (zr (some (Src.same 0))) (zr nilP)) (An (An (zr (iv (↑x0:Int))) (zr true)) (An (An (ci (o19 hpre x0 hx0 y1 x2 hx2 y3 y4)) (zr nilN)) tv)))) (An (An (An (zr (OB.cells 26 (cFrm f))) (zr true)) tv) (An (zr true) (zr true))))) (o20 hpre x0 hx0 y1 x2 hx2 y3 y4) (o21 hpre x0 hx0 y1 x2 hx2 y3 y4)
  ·refine swp_exit ?_
   refine zR [1,2,6] [0] (Ak 1 (An (o22 hpre x0 hx0 y1 x2 hx2 y3) (Ak 1 tv))) ?_
   exact zn (zE hE [] [(0,.same 0)] [1] [0] (An (An (An (zr (iv p)) (zr true)) (An (An (zr (some (Src.same 0))) (zr nilP)) (An (An (ci (o23 hpre x0 hx0 y1 x2 hx2 y3)) (zr nilN)) tv))) (An (An (An (zr (OB.cells 26 (cFrm f))) (zr true)) tv) (An (zr true) (zr true))))) (o24 hpre x0 hx0 y1 x2 hx2 y3) (o25 hpre x0 hx0 y1 x2 hx2 y3)
 ·refine swp_exit ?_
  refine swp_seq ?_
  refine zR [4,5] [] (Ak 2 tv) ?_
  refine swp_ret ?_
  exact zT [] (An (Ak 2 tv) (An (An (An (ci (o26 hpre x0 hx0 y1)) (zr nilN)) (An (o27 hpre x0 hx0 y1) tv)) (An (zr true) (An (zr true) (zr true)))))
theorem t75 (f:Frm) (p:Int):Triple Try.prog 75 (s75 f p):=by
 apply w75
 all_goals (intro hs; have hl:=hs.columns)
 case o0=>rfl
 case o1=>exact ⟨Nat.zero_le _,rfl⟩
 all_goals (rintro x ⟨hx,hn⟩ h; simp only [decide_eq_true_eq,decide_eq_false_iff_not] at h)
 case o2=>rfl
 case o3=>exact ⟨Nat.zero_le _,fun j hj=>absurd hj (Nat.not_lt_zero _)⟩
 case o26 =>
  have e:aboveN f p=none:=by unfold aboveN; rw [← show x=f.columns.length by omega]; exact hn
  unfold aheadC; rw [e]
 case o27 =>
  have e:aboveN f p=none:=by unfold aboveN; rw [← show x=f.columns.length by omega]; exact hn
  unfold aboveL; rw [e]; rfl
 all_goals (have hcl:=hs.colLen x)
 all_goals (rintro y ⟨hy,hm⟩)
 case o4 | o5=>(repeat intro _); omega
 all_goals (intro h2; simp only [decide_eq_true_eq,decide_eq_false_iff_not] at h2)
 case o24=>exact ⟨by omega,above_next hn (idx_none (fun j hj=>hm j (by omega)))⟩
 case o22 | o23 | o25=>first | omega | (simp only [inI]; omega)
 case o6 | o7 | o8 | o9=>omega
 all_goals (intro h3)
 case o20=>exact ⟨by omega,lt_succ_cases hm h3⟩
 case o18 | o19 | o21=>first | omega | (simp only [inI]; omega)
 all_goals (have hid:=idx_hit (by omega) hm h3; have hab:=above_hit (by omega) hn (by rw [hid]; simp))
 case o15=>unfold aheadC; rw [hab]
 all_goals (have e:aboveL f p=(col f x).take y:=by (unfold aboveL; rw [hab]; show (col f x).take (idxI (col f x) p).toNat=_; rw [hid]; rfl))
 case o16=>rw [e,List.length_take]; omega
 case o17 =>
  intro i hi
  rw [e] at hi ⊢
  rw [List.length_take] at hi
  rw [getD_lt (List.take y (col f x)) _ (by rw [List.length_take]; exact hi),List.getElem_take,getD_lt _ _ (by omega)]
 all_goals omega
theorem w123 (f:Frm) (a:Int) (b:Int)
  (o0:okFrm f=true/\isPc f a=true/\isPc f b=true->Sound f)
  (o1:okFrm f=true/\isPc f a=true/\isPc f b=true->Sound f)
  (o2:okFrm f=true/\isPc f a=true/\isPc f b=true->decide (aheadC f a=aheadC f b)=true->decide ((↑(List.length (aboveL f b)):Int) < (↑(List.length (aboveL f a)):Int))=true->0<=(↑(List.length (aboveL f b)):Int))
  (o3:okFrm f=true/\isPc f a=true/\isPc f b=true->decide (aheadC f a=aheadC f b)=true->decide ((↑(List.length (aboveL f b)):Int) < (↑(List.length (aboveL f a)):Int))=true->(↑(List.length (aboveL f b)):Int)<=(↑(List.length (aboveL f a)):Int))
  (o4:okFrm f=true/\isPc f a=true/\isPc f b=true->decide (aheadC f a=aheadC f b)=true->decide ((↑(List.length (aboveL f b)):Int) < (↑(List.length (aboveL f a)):Int))=true->List.length (aboveL f a) - List.length (aboveL f b)=List.length (List.drop (List.length (aboveL f b)) (aboveL f a)))
  (o5:okFrm f=true/\isPc f a=true/\isPc f b=true->decide (aheadC f a=aheadC f b)=true->decide ((↑(List.length (aboveL f b)):Int) < (↑(List.length (aboveL f a)):Int))=true -> ∀ (i4:Nat),i4 < List.length (List.drop (List.length (aboveL f b)) (aboveL f a)) -> [iv (List.getD (aboveL f a) (List.length (aboveL f b) + i4) 0)] = [iv (List.getD (List.drop (List.length (aboveL f b)) (aboveL f a)) i4 0)])
  (o6:okFrm f=true/\isPc f a=true/\isPc f b=true->decide (aheadC f a=aheadC f b)=true->decide ((↑(List.length (aboveL f b)):Int) < (↑(List.length (aboveL f a)):Int))=true->Sound f)
  (o7:okFrm f=true/\isPc f a=true/\isPc f b=true->decide (aheadC f a=aheadC f b)=true->decide ((↑(List.length (aboveL f b)):Int) < (↑(List.length (aboveL f a)):Int))=true->goodL f (List.drop (List.length (aboveL f b)) (aboveL f a)))
  (o8:okFrm f=true/\isPc f a=true/\isPc f b=true->decide (aheadC f a=aheadC f b)=true->decide ((↑(List.length (aboveL f b)):Int) < (↑(List.length (aboveL f a)):Int))=true->inI (0 - Span.hi (highP f (List.drop (List.length (aboveL f b)) (aboveL f a)))))
  (o9:okFrm f=true/\isPc f a=true/\isPc f b=true->decide (aheadC f a=aheadC f b)=true->decide ((↑(List.length (aboveL f b)):Int) < (↑(List.length (aboveL f a)):Int))=true->inI (0 - Span.lo (highP f (List.drop (List.length (aboveL f b)) (aboveL f a)))))
  (o10:okFrm f=true/\isPc f a=true/\isPc f b=true->decide (aheadC f a=aheadC f b)=true->decide ((↑(List.length (aboveL f b)):Int) < (↑(List.length (aboveL f a)):Int))=true->0 - Span.hi (highP f (List.drop (List.length (aboveL f b)) (aboveL f a)))=Span.lo (gapP f a b))
  (o11:okFrm f=true/\isPc f a=true/\isPc f b=true->decide (aheadC f a=aheadC f b)=true->decide ((↑(List.length (aboveL f b)):Int) < (↑(List.length (aboveL f a)):Int))=true->0 - Span.lo (highP f (List.drop (List.length (aboveL f b)) (aboveL f a)))=Span.hi (gapP f a b))
  (o12:okFrm f=true/\isPc f a=true/\isPc f b=true->decide (aheadC f a=aheadC f b)=true->decide ((↑(List.length (aboveL f b)):Int) < (↑(List.length (aboveL f a)):Int))=false->0<=(↑(List.length (aboveL f a)):Int))
  (o13:okFrm f=true/\isPc f a=true/\isPc f b=true->decide (aheadC f a=aheadC f b)=true->decide ((↑(List.length (aboveL f b)):Int) < (↑(List.length (aboveL f a)):Int))=false->(↑(List.length (aboveL f a)):Int)<=(↑(List.length (aboveL f b)):Int))
  (o14:okFrm f=true/\isPc f a=true/\isPc f b=true->decide (aheadC f a=aheadC f b)=true->decide ((↑(List.length (aboveL f b)):Int) < (↑(List.length (aboveL f a)):Int))=false->List.length (aboveL f b) - List.length (aboveL f a)=List.length (List.drop (List.length (aboveL f a)) (aboveL f b)))
  (o15:okFrm f=true/\isPc f a=true/\isPc f b=true->decide (aheadC f a=aheadC f b)=true->decide ((↑(List.length (aboveL f b)):Int) < (↑(List.length (aboveL f a)):Int))=false -> ∀ (i7:Nat),i7 < List.length (List.drop (List.length (aboveL f a)) (aboveL f b)) -> [iv (List.getD (aboveL f b) (List.length (aboveL f a) + i7) 0)] = [iv (List.getD (List.drop (List.length (aboveL f a)) (aboveL f b)) i7 0)])
  (o16:okFrm f=true/\isPc f a=true/\isPc f b=true->decide (aheadC f a=aheadC f b)=true->decide ((↑(List.length (aboveL f b)):Int) < (↑(List.length (aboveL f a)):Int))=false->Sound f)
  (o17:okFrm f=true/\isPc f a=true/\isPc f b=true->decide (aheadC f a=aheadC f b)=true->decide ((↑(List.length (aboveL f b)):Int) < (↑(List.length (aboveL f a)):Int))=false->goodL f (List.drop (List.length (aboveL f a)) (aboveL f b)))
  (o18:okFrm f=true/\isPc f a=true/\isPc f b=true->decide (aheadC f a=aheadC f b)=true->decide ((↑(List.length (aboveL f b)):Int) < (↑(List.length (aboveL f a)):Int))=false->Span.lo (highP f (List.drop (List.length (aboveL f a)) (aboveL f b)))=Span.lo (gapP f a b))
  (o19:okFrm f=true/\isPc f a=true/\isPc f b=true->decide (aheadC f a=aheadC f b)=true->decide ((↑(List.length (aboveL f b)):Int) < (↑(List.length (aboveL f a)):Int))=false->Span.hi (highP f (List.drop (List.length (aboveL f a)) (aboveL f b)))=Span.hi (gapP f a b))
  (o20:okFrm f=true/\isPc f a=true/\isPc f b=true->decide (aheadC f a=aheadC f b)=false->Sound f)
  (o21:okFrm f=true/\isPc f a=true/\isPc f b=true->decide (aheadC f a=aheadC f b)=false->goodL f (aboveL f a))
  (o22:okFrm f=true/\isPc f a=true/\isPc f b=true->decide (aheadC f a=aheadC f b)=false->Sound f)
  (o23:okFrm f=true/\isPc f a=true/\isPc f b=true->decide (aheadC f a=aheadC f b)=false->goodL f (aboveL f b))
  (o24:okFrm f=true/\isPc f a=true/\isPc f b=true->decide (aheadC f a=aheadC f b)=false->inI (Span.lo (highP f (aboveL f b)) - Span.hi (highP f (aboveL f a))))
  (o25:okFrm f=true/\isPc f a=true/\isPc f b=true->decide (aheadC f a=aheadC f b)=false->inI (Span.hi (highP f (aboveL f b)) - Span.lo (highP f (aboveL f a))))
  (o26:okFrm f=true/\isPc f a=true/\isPc f b=true->decide (aheadC f a=aheadC f b)=false->Span.lo (highP f (aboveL f b)) - Span.hi (highP f (aboveL f a))=Span.lo (gapP f a b))
  (o27:okFrm f=true/\isPc f a=true/\isPc f b=true->decide (aheadC f a=aheadC f b)=false->Span.hi (highP f (aboveL f b)) - Span.lo (highP f (aboveL f a))=Span.hi (gapP f a b)) :
  Triple Try.prog 123 (s123 f a b):=by
 refine triple_of Try.func123 rfl Try.call123 T0_ok _ rfl rfl rfl rfl (Nat.le_of_ble_eq_true (by kernel_rfl)) (fun _ _ _ _ h=>h) ?_
 intro hpre C hC _ hE
 obtain ⟨P,w0,E0,av,hA,ro,df⟩:=C
 obtain ⟨rfl,rfl,rfl⟩:=hC
 refine swp_seq ?_
 refine zR [1,2,3,6] [0,8] (Ak 2 tv) ?_
 refine swp_seq ?_
 refine zC ([(2,CallSpec.eq (s75 f a) [true,true])]) [2,3,6,7,8] [0,8] (Ak 2 (An (An (An (zr (AV.agg (cFrm f))) (An (zr (iv a)) tv)) (An (t75 (f) (a)) (An (o0 hpre) (Ak 1 (fun (i0:Env)=>tv))))) (Ak 5 tv))) ?_
 refine swp_seq ?_
 refine zC ([(2,CallSpec.eq (s75 f b) [true,true])]) [3,6,7,8,9,10] [0,8] (Ak 2 (An (An (An (zr (AV.agg (cFrm f))) (An (zr (iv b)) tv)) (An (t75 (f) (b)) (An (o1 hpre) (Ak 1 (fun (i1:Env)=>tv))))) (Ak 5 tv))) ?_
 refine swp_seq ?_
 refine swp_seq ?_
 refine zR [3,6,8,10,28] [0,8] (Ak 3 tv) ?_
 refine zI (decide (aheadC f a=aheadC f b)) (fun y2 => ?_) (fun y2 => ?_)
 ·refine swp_seq ?_
  refine swp_seq ?_
  refine zR [3,6,8,10,33] [0,8] (Ak 5 tv) ?_
  refine zI (decide ((↑(List.length (aboveL f b)):Int) < (↑(List.length (aboveL f a)):Int))) (fun y3 => ?_) (fun y3 => ?_)
  ·refine swp_seq ?_
   refine zC ([(5,CallSpec.eq (c123a f a b) [true,false])]) [6,11] [8,256] (Ak 4 (An (An (o2 hpre y2 y3) (o3 hpre y2 y3)) (An (An (An (zr (AV.agg (cFrm f))) (An (An (zr 1) (An (o4 hpre y2 y3) (fun (i4:Nat)=>(fun (y5:i4 < List.length (List.drop (List.length (aboveL f b)) (aboveL f a)))=>(o5 hpre y2 y3 i4 y5))))) tv)) (An (t92 (f) (List.drop (List.length (aboveL f b)) (aboveL f a))) (An (An (o6 hpre y2 y3) (o7 hpre y2 y3)) (Ak 1 (fun (i6:Env)=>tv))))) (Ak 2 tv)))) ?_
   refine swp_seq ?_
   refine zR [6] [8] (Ak 2 (An (o8 hpre y2 y3) (Ak 2 (An (o9 hpre y2 y3) (Ak 2 tv))))) ?_
   refine swp_ret ?_
   exact zT [] (An (Ak 1 tv) (An (An (An (ci (o10 hpre y2 y3)) (zr nilN)) (An (An (ci (o11 hpre y2 y3)) (zr nilN)) tv)) (An (zr true) (An (zr true) (zr true)))))
  ·refine swp_skip ?_
   refine swp_seq ?_
   refine zC ([(5,CallSpec.eq (c123b f a b) [true,false])]) [6] [8] (Ak 4 (An (An (o12 hpre y2 y3) (o13 hpre y2 y3)) (An (An (An (zr (AV.agg (cFrm f))) (An (An (zr 1) (An (o14 hpre y2 y3) (fun (i7:Nat)=>(fun (y8:i7 < List.length (List.drop (List.length (aboveL f a)) (aboveL f b)))=>(o15 hpre y2 y3 i7 y8))))) tv)) (An (t92 (f) (List.drop (List.length (aboveL f a)) (aboveL f b))) (An (An (o16 hpre y2 y3) (o17 hpre y2 y3)) (Ak 1 (fun (i9:Env)=>tv))))) (Ak 1 tv)))) ?_
   refine swp_ret ?_
   exact zT [] (An (Ak 1 tv) (An (An (An (ci (o18 hpre y2 y3)) (zr nilN)) (An (An (ci (o19 hpre y2 y3)) (zr nilN)) tv)) (An (zr true) (An (zr true) (zr true)))))
 ·refine swp_skip ?_
  refine swp_seq ?_
  refine zC ([(2,CallSpec.eq (s92 f (aboveL f a)) [true,true]),(5,CallSpec.eq (s92 f (aboveL f b)) [true,true])]) [6,12,13] [8,216,224] (Ak 2 (An (An (An (zr (AV.agg (cFrm f))) (An (zr (aInts (aboveL f a))) tv)) (An (t92 (f) (aboveL f a)) (An (An (o20 hpre y2) (o21 hpre y2)) (Ak 1 (fun (i10:Env)=>tv))))) (Ak 2 (An (An (An (zr (AV.agg (cFrm f))) (An (zr (aInts (aboveL f b))) tv)) (An (t92 (f) (aboveL f b)) (An (An (o22 hpre y2) (o23 hpre y2)) (Ak 1 (fun (i11:Env)=>tv))))) (Ak 4 tv))))) ?_
  refine swp_seq ?_
  refine zR [6] [8] (Ak 4 (An (o24 hpre y2) (Ak 4 (An (o25 hpre y2) (Ak 2 tv))))) ?_
  refine swp_ret ?_
  exact zT [] (An (Ak 1 tv) (An (An (An (ci (o26 hpre y2)) (zr nilN)) (An (An (ci (o27 hpre y2)) (zr nilN)) tv)) (An (zr true) (An (zr true) (zr true)))))
theorem t123 (f:Frm) (a b:Int):Triple Try.prog 123 (s123 f a b):=by
 apply w123
 all_goals (rintro ⟨h1,h2,h3⟩; have hs:=sound_of h1; have ea:=ahead_above h1 h2; have eb:=ahead_above h1 h3; have ga:=aboveL_good hs a; have gb:=aboveL_good hs b; have ha:=high_bound' hs ga; have hb:=high_bound' hs gb)
 case o0 | o1=>exact hs
 all_goals (rw [ea,eb]; intro hc; simp only [decide_eq_true_eq,decide_eq_false_iff_not] at hc)
 case o20 | o22=>exact hs
 case o21=>exact ga
 case o23=>exact gb
 case o24 | o25=>simp only [inI]; omega
 case o26 | o27=>rw [gap_apart hc]
 all_goals (intro hlt; simp only [decide_eq_true_eq,decide_eq_false_iff_not] at hlt)
 case o6 | o16=>exact hs
 case o7=>exact goodL_drop ga _
 case o17=>exact goodL_drop gb _
 case o4 | o14=>rw [List.length_drop]
 case o5 | o15=>intro i hi; rw [Go.Sh.getD_drop]
 case o8 | o9=>have:=high_bound' hs (goodL_drop ga (aboveL f b).length); simp only [inI]; omega
 case o10 | o11=>rw [gap_long hc (by omega),Int.zero_sub]
 case o18 | o19=>rw [gap_short hc (by omega)]
 all_goals omega
theorem w66 (f:Frm) (a:Int) (b:Int)
  (o0:fitsF f->(!decide (openF f (bif isPc f a then isPc f b else false)=0))=true->0=Span.lo (gapR f a b))
  (o1:fitsF f->(!decide (openF f (bif isPc f a then isPc f b else false)=0))=true->0=Span.hi (gapR f a b))
  (o2:fitsF f->(!decide (openF f (bif isPc f a then isPc f b else false)=0))=true->openF f (bif isPc f a then isPc f b else false)=openF f (gapG f a b))
  (o3:fitsF f->(!decide (openF f (bif isPc f a then isPc f b else false)=0))=false->okFrm f=true)
  (o4:fitsF f->(!decide (openF f (bif isPc f a then isPc f b else false)=0))=false->isPc f a=true)
  (o5:fitsF f->(!decide (openF f (bif isPc f a then isPc f b else false)=0))=false->isPc f b=true)
  (o6:fitsF f->(!decide (openF f (bif isPc f a then isPc f b else false)=0))=false->Span.lo (gapP f a b)=Span.lo (gapR f a b))
  (o7:fitsF f->(!decide (openF f (bif isPc f a then isPc f b else false)=0))=false->Span.hi (gapP f a b)=Span.hi (gapR f a b))
  (o8:fitsF f->(!decide (openF f (bif isPc f a then isPc f b else false)=0))=false->0=openF f (gapG f a b)) :
  Triple Try.prog 66 (s66 f a b):=by
 refine triple_of Try.func66 rfl Try.call66 T0_ok _ rfl rfl rfl rfl (Nat.le_of_ble_eq_true (by kernel_rfl)) (fun _ _ _ _ h=>h) ?_
 intro hpre C hC _ hE
 obtain ⟨P,w0,E0,av,hA,ro,df⟩:=C
 obtain ⟨rfl,rfl,rfl⟩:=hC
 refine swp_seq ?_
 refine zR [1,2,3,6] [0,8] (Ak 3 tv) ?_
 refine swp_seq ?_
 refine swp_seq ?_
 refine zC ([(3,CallSpec.eq (s25 f a) [true,true]),(7,CallSpec.eq (s25 f b) [true,true]),(9,CallSpec.eq (s91 f (bif isPc f a then isPc f b else false)) [true,true])]) [1,2,3,6,8] [0,8] (Ak 3 (An (An (An (zr (AV.agg (cFrm f))) (An (zr (iv a)) tv)) (An (t25 (f) (a)) (An hpre (Ak 1 (fun (i0:Env)=>tv))))) (Ak 1 (An (fun (y1:isPc f a=true)=>(An (Ak 1 tv) tv)) (An (fun (y2:isPc f a=true)=>(An (Ak 1 tv) tv)) (An (fun (y3:isPc f a=true)=>(An (Ak 1 (An (fun (y4:isPc f a=true)=>y3) (An (fun (y5:isPc f a=true)=>y3) tv))) (An (An (zr (AV.agg (cFrm f))) (An (zr (iv b)) tv)) (An (t25 (f) (b)) (An hpre (Ak 1 (fun (i6:Env)=>tv))))))) (An (An (fun (y7:isPc f a=true)=>y7) (fun (y8:isPc f a=false)=>tv)) (An (An (An (zr (AV.agg (cFrm f))) (An (zr (bv (bif isPc f a then isPc f b else false))) tv)) (An (t91 (f) (bif isPc f a then isPc f b else false)) (An hpre (Ak 1 (fun (i9:Env)=>tv))))) (Ak 1 tv))))))))) ?_
 refine swp_seq ?_
 refine zR [1,2,3,6,8,20] [0,8] (Ak 2 tv) ?_
 refine zI (!decide (openF f (bif isPc f a then isPc f b else false)=0)) (fun y10 => ?_) (fun y10 => ?_)
 ·refine swp_seq ?_
  refine zR [6,7] [8] (Ak 4 tv) ?_
  refine swp_ret ?_
  exact zT [] (An (Ak 2 tv) (An (An (An (An (ci (o0 hpre y10)) (zr nilN)) (An (An (ci (o1 hpre y10)) (zr nilN)) tv)) (An (An (ci (o2 hpre y10)) (zr nilN)) tv)) (An (zr true) (An (zr true) (zr true)))))
 ·refine swp_skip ?_
  refine swp_seq ?_
  refine zC ([(3,CallSpec.eq (s123 f a b) [true,true,true])]) [6,7] [8] (Ak 3 (An (An (An (zr (AV.agg (cFrm f))) (An (zr (iv a)) (An (zr (iv b)) tv))) (An (t123 (f) (a) (b)) (An (An (o3 hpre y10) (An (o4 hpre y10) (o5 hpre y10))) (Ak 1 (fun (i11:Env)=>tv))))) (Ak 2 tv))) ?_
  refine swp_ret ?_
  exact zT [] (An (Ak 2 tv) (An (An (An (An (ci (o6 hpre y10)) (zr nilN)) (An (An (ci (o7 hpre y10)) (zr nilN)) tv)) (An (An (ci (o8 hpre y10)) (zr nilN)) tv)) (An (zr true) (An (zr true) (zr true)))))
theorem t66 (f:Frm) (a b:Int):Triple Try.prog 66 (s66 f a b):=by
 apply w66
 all_goals (intro hp; rw [show (bif isPc f a then isPc f b else false)=gapG f a b by unfold gapG; cases isPc f a <;> rfl]; intro h)
 case o0 | o1=>have e:=gate_bad h; simp [gapR,e]
 case o2=>rfl
 all_goals (obtain ⟨e1,e0,e2,e3,e4⟩:=gate_ok h; have e0':=e0; unfold gapG at e0'; rw [Bool.and_eq_true] at e0')
 case o3=>exact e1
 case o4=>exact e0'.1
 case o5=>exact e0'.2
 case o6 | o7=>unfold gapR; rw [e1,e0]; rfl
 case o8=>exact e4.symm
theorem w68 (f:Frm) (a:Int) (b:Int)
  (o0:fitsF f->(!decide (openF f (bif isPc f a then isPc f b else false)=0))=true->0=meetsP f a b)
  (o1:fitsF f->(!decide (openF f (bif isPc f a then isPc f b else false)=0))=true->openF f (bif isPc f a then isPc f b else false)=openF f (gapG f a b))
  (o2:fitsF f->(!decide (openF f (bif isPc f a then isPc f b else false)=0))=false->okFrm f=true)
  (o3:fitsF f->(!decide (openF f (bif isPc f a then isPc f b else false)=0))=false->isPc f a=true)
  (o4:fitsF f->(!decide (openF f (bif isPc f a then isPc f b else false)=0))=false->isPc f b=true)
  (o5:fitsF f->(!decide (openF f (bif isPc f a then isPc f b else false)=0))=false->(bif decide (Span.lo (gapP f a b)=0) then decide (Span.hi (gapP f a b)=0) else false)=true->1=meetsP f a b)
  (o6:fitsF f->(!decide (openF f (bif isPc f a then isPc f b else false)=0))=false->(bif decide (Span.lo (gapP f a b)=0) then decide (Span.hi (gapP f a b)=0) else false)=true->0=openF f (gapG f a b))
  (o7:fitsF f->(!decide (openF f (bif isPc f a then isPc f b else false)=0))=false->(bif decide (Span.lo (gapP f a b)=0) then decide (Span.hi (gapP f a b)=0) else false)=false->within 0 (Span.lo (gapP f a b)) (Span.hi (gapP f a b))=true->3=meetsP f a b)
  (o8:fitsF f->(!decide (openF f (bif isPc f a then isPc f b else false)=0))=false->(bif decide (Span.lo (gapP f a b)=0) then decide (Span.hi (gapP f a b)=0) else false)=false->within 0 (Span.lo (gapP f a b)) (Span.hi (gapP f a b))=true->0=openF f (gapG f a b))
  (o9:fitsF f->(!decide (openF f (bif isPc f a then isPc f b else false)=0))=false->(bif decide (Span.lo (gapP f a b)=0) then decide (Span.hi (gapP f a b)=0) else false)=false->within 0 (Span.lo (gapP f a b)) (Span.hi (gapP f a b))=false->2=meetsP f a b)
  (o10:fitsF f->(!decide (openF f (bif isPc f a then isPc f b else false)=0))=false->(bif decide (Span.lo (gapP f a b)=0) then decide (Span.hi (gapP f a b)=0) else false)=false->within 0 (Span.lo (gapP f a b)) (Span.hi (gapP f a b))=false->0=openF f (gapG f a b)) :
  Triple Try.prog 68 (s68 f a b):=by
 refine triple_of Try.func68 rfl Try.call68 T0_ok _ rfl rfl rfl rfl (Nat.le_of_ble_eq_true (by kernel_rfl)) (fun _ _ _ _ h=>h) ?_
 intro hpre C hC _ hE
 obtain ⟨P,w0,E0,av,hA,ro,df⟩:=C
 obtain ⟨rfl,rfl,rfl⟩:=hC
 refine swp_seq ?_
 refine zR [1,2,3] [0] (Ak 3 tv) ?_
 refine swp_seq ?_
 refine swp_seq ?_
 refine zC ([(3,CallSpec.eq (s25 f a) [true,true]),(7,CallSpec.eq (s25 f b) [true,true]),(9,CallSpec.eq (s91 f (bif isPc f a then isPc f b else false)) [true,true])]) [1,2,3,8] [0] (Ak 3 (An (An (An (zr (AV.agg (cFrm f))) (An (zr (iv a)) tv)) (An (t25 (f) (a)) (An hpre (Ak 1 (fun (i0:Env)=>tv))))) (Ak 1 (An (fun (y1:isPc f a=true)=>(An (Ak 1 tv) tv)) (An (fun (y2:isPc f a=true)=>(An (Ak 1 tv) tv)) (An (fun (y3:isPc f a=true)=>(An (Ak 1 (An (fun (y4:isPc f a=true)=>y3) (An (fun (y5:isPc f a=true)=>y3) tv))) (An (An (zr (AV.agg (cFrm f))) (An (zr (iv b)) tv)) (An (t25 (f) (b)) (An hpre (Ak 1 (fun (i6:Env)=>tv))))))) (An (An (fun (y7:isPc f a=true)=>y7) (fun (y8:isPc f a=false)=>tv)) (An (An (An (zr (AV.agg (cFrm f))) (An (zr (bv (bif isPc f a then isPc f b else false))) tv)) (An (t91 (f) (bif isPc f a then isPc f b else false)) (An hpre (Ak 1 (fun (i9:Env)=>tv))))) (Ak 1 tv))))))))) ?_
 refine swp_seq ?_
 refine zR [1,2,3,8,21] [0] (Ak 2 tv) ?_
 refine zI (!decide (openF f (bif isPc f a then isPc f b else false)=0)) (fun y10 => ?_) (fun y10 => ?_)
 ·refine swp_seq ?_
  refine zR [6,7] [] (Ak 3 tv) ?_
  refine swp_ret ?_
  exact zT [] (An (Ak 2 tv) (An (An (An (ci (o0 hpre y10)) (zr nilN)) (An (An (ci (o1 hpre y10)) (zr nilN)) tv)) (An (zr true) (An (zr true) (zr true)))))
 ·refine swp_skip ?_
  refine swp_seq ?_
  refine zC ([(3,CallSpec.eq (s123 f a b) [true,true,true])]) [9] [160] (Ak 3 (An (An (An (zr (AV.agg (cFrm f))) (An (zr (iv a)) (An (zr (iv b)) tv))) (An (t123 (f) (a) (b)) (An (An (o2 hpre y10) (An (o3 hpre y10) (o4 hpre y10))) (Ak 1 (fun (i11:Env)=>tv))))) (Ak 2 tv))) ?_
  refine swp_seq ?_
  refine swp_block ?_
  refine swp_seq ?_
  refine zR [9,27] [160] (Ak 4 (An (fun (y12:decide (Span.lo (gapP f a b)=0)=true)=>(An (Ak 1 tv) tv)) (An (fun (y13:decide (Span.lo (gapP f a b)=0)=true)=>(An (An (fun (y14:decide (Span.lo (gapP f a b)=0)=true)=>y13) tv) tv)) (An (fun (y15:decide (Span.lo (gapP f a b)=0)=true)=>(An (An (fun (y16:decide (Span.lo (gapP f a b)=0)=true)=>y15) (Ak 1 tv)) tv)) (An (An (fun (y17:decide (Span.lo (gapP f a b)=0)=true)=>y17) (fun (y18:decide (Span.lo (gapP f a b)=0)=false)=>tv)) (Ak 1 tv)))))) ?_
  refine zI (bif decide (Span.lo (gapP f a b)=0) then decide (Span.hi (gapP f a b)=0) else false) (fun y19 => ?_) (fun y19 => ?_)
  ·refine swp_seq ?_
   refine zR [6,7] [] (Ak 2 tv) ?_
   refine swp_ret ?_
   exact zT [] (An (Ak 2 tv) (An (An (An (ci (o5 hpre y10 y19)) (zr nilN)) (An (An (ci (o6 hpre y10 y19)) (zr nilN)) tv)) (An (zr true) (An (zr true) (zr true)))))
  ·refine swp_seq ?_
   refine zC ([(4,CallSpec.eq (s87 0 (Span.lo (gapP f a b)) (Span.hi (gapP f a b))) [true,true,true])]) [36] [] (Ak 4 (An (An (An (zr (iv 0)) (An (zr (iv (Span.lo (gapP f a b)))) (An (zr (iv (Span.hi (gapP f a b)))) tv))) (An (t87 (0) (Span.lo (gapP f a b)) (Span.hi (gapP f a b))) (Ak 2 (fun (i20:Env)=>tv)))) (Ak 1 tv))) ?_
   refine zI (within 0 (Span.lo (gapP f a b)) (Span.hi (gapP f a b))) (fun y21 => ?_) (fun y21 => ?_)
   ·refine swp_seq ?_
    refine zR [6,7] [] (Ak 2 tv) ?_
    refine swp_ret ?_
    exact zT [] (An (Ak 2 tv) (An (An (An (ci (o7 hpre y10 y19 y21)) (zr nilN)) (An (An (ci (o8 hpre y10 y19 y21)) (zr nilN)) tv)) (An (zr true) (An (zr true) (zr true)))))
   ·refine swp_skip ?_
    refine swp_seq ?_
    refine zR [6,7] [] (Ak 2 tv) ?_
    refine swp_ret ?_
    exact zT [] (An (Ak 2 tv) (An (An (An (ci (o9 hpre y10 y19 y21)) (zr nilN)) (An (An (ci (o10 hpre y10 y19 y21)) (zr nilN)) tv)) (An (zr true) (An (zr true) (zr true)))))
theorem t68 (f:Frm) (a b:Int):Triple Try.prog 68 (s68 f a b):=by
 apply w68
 all_goals (intro hp; rw [show (bif isPc f a then isPc f b else false)=gapG f a b by unfold gapG; cases isPc f a <;> rfl]; intro h)
 case o0=>have e:=gate_bad h; simp [meetsP,e]
 case o1=>rfl
 all_goals (obtain ⟨e1,e0,e2,e3,e4⟩:=gate_ok h; have e0':=e0; unfold gapG at e0'; rw [Bool.and_eq_true] at e0')
 case o2=>exact e1
 case o3=>exact e0'.1
 case o4=>exact e0'.2
 all_goals (intro h2; rw [show (bif decide ((gapP f a b).lo=0) then decide ((gapP f a b).hi=0) else false)=(decide ((gapP f a b).lo=0) && decide ((gapP f a b).hi=0)) by cases decide ((gapP f a b).lo=0) <;> rfl] at h2)
 case o5=>unfold meetsP; rw [e1,e0]; unfold meetsV; rw [if_pos h2]; rfl
 case o6=>exact e4.symm
 all_goals (intro h3)
 all_goals (try (first | (exact rfl) | (exact e4.symm)))
 case o7=>unfold meetsP; rw [e1,e0]; unfold meetsV; rw [if_neg (nt_ h2),if_pos h3]; rfl
 case o9=>unfold meetsP; rw [e1,e0]; unfold meetsV; rw [if_neg (nt_ h2),if_neg (nt_ h3)]; rfl
theorem w29 (f:Frm) (p:Int) (n:Int)
  (o0:smallF f/\0<=p/\p < (↑(List.length (Frm.pieces f)):Int)->0<=p)
  (o1:smallF f/\0<=p/\p < (↑(List.length (Frm.pieces f)):Int)->p < (↑(List.length (Frm.pieces f)):Int))
  (o2:smallF f/\0<=p/\p < (↑(List.length (Frm.pieces f)):Int)->Int.toNat p < List.length (Frm.pieces f))
  (o3:smallF f/\0<=p/\p < (↑(List.length (Frm.pieces f)):Int)->0<=p)
  (o4:smallF f/\0<=p/\p < (↑(List.length (Frm.pieces f)):Int)->p < (↑(List.length (Frm.pieces f)):Int))
  (o5:smallF f/\0<=p/\p < (↑(List.length (Frm.pieces f)):Int)->Int.toNat p < List.length (Frm.pieces f))
  (o6:smallF f/\0<=p/\p < (↑(List.length (Frm.pieces f)):Int)->Frm.length f=Frm.length (grownF f (Int.toNat p) n))
  (o7:smallF f/\0<=p/\p < (↑(List.length (Frm.pieces f)):Int)->Frm.slack f=Frm.slack (grownF f (Int.toNat p) n))
  (o8:smallF f/\0<=p/\p < (↑(List.length (Frm.pieces f)):Int)->List.length (Frm.strips f)=List.length (Frm.strips (grownF f (Int.toNat p) n)))
  (o9:smallF f/\0<=p/\p < (↑(List.length (Frm.pieces f)):Int) -> ∀ (i1:Nat),i1 < List.length (Frm.strips (grownF f (Int.toNat p) n))->cStrip (stp f i1)=cStrip (stp (grownF f (Int.toNat p) n) i1))
  (o10:smallF f/\0<=p/\p < (↑(List.length (Frm.pieces f)):Int)->List.length (Frm.pieces f)=List.length (Frm.pieces (grownF f (Int.toNat p) n)))
  (o11:smallF f/\0<=p/\p < (↑(List.length (Frm.pieces f)):Int) -> ∀ (i3:Nat),i3 < List.length (Frm.pieces (grownF f (Int.toNat p) n))->Decidable.rec (fun (h:¬i3=Int.toNat p)=>cPiece (pc f i3)) (fun (h:i3=Int.toNat p)=>[iv (Piece.lo (pc f (Int.toNat p))),iv n,iv (Piece.pence (pc f (Int.toNat p)))] ++ []) (instDecidableEqNat i3 (Int.toNat p))=cPiece (pc (grownF f (Int.toNat p) n) i3))
  (o12:smallF f/\0<=p/\p < (↑(List.length (Frm.pieces f)):Int)->List.length (Frm.columns f)=List.length (Frm.columns (grownF f (Int.toNat p) n)))
  (o13:smallF f/\0<=p/\p < (↑(List.length (Frm.pieces f)):Int) -> ∀ (i5:Nat),i5 < List.length (Frm.columns (grownF f (Int.toNat p) n)) -> [aInts (col f i5)] = [aInts (col (grownF f (Int.toNat p) n) i5)]) :
  Triple Try.prog 29 (s29 f p n):=by
 refine triple_of Try.func29 rfl Try.call29 T0_ok _ rfl rfl rfl rfl (Nat.le_of_ble_eq_true (by kernel_rfl)) (fun _ _ _ _ h=>h) ?_
 intro hpre C hC _ hE
 obtain ⟨P,w0,E0,av,hA,ro,df⟩:=C
 obtain ⟨rfl,rfl,rfl⟩:=hC
 refine swp_seq ?_
 refine zR [1,2,3,6] [0,8] (Ak 2 tv) ?_
 refine swp_seq ?_
 refine zC ([(1,CallSpec.eq (c29 f p n 24) [true])]) [1,2,6,7] [8,32,24,25,26] (Ak 1 (An (An (An (zr (AV.agg (cFrm f))) tv) (An (t31o (f) (24)) (An hpre.1 (Ak 1 (fun (i0:Env)=>tv))))) (Ak 2 tv))) ?_
 refine swp_seq ?_
 refine zR [1,2,6,7,8] [8,32,88,24,25,26] (Ak 3 (An (An (o0 hpre) (o1 hpre)) (An (An (o2 hpre) tv) (Ak 2 tv)))) ?_
 refine swp_seq ?_
 refine zR [1,6,7,8] [8,32,88,24,25,26] (Ak 4 tv) ?_
 refine swp_seq ?_
 refine zR [6,7] [8,32,24,25,26] (Ak 4 (An (An (o3 hpre) (o4 hpre)) (An (An (o5 hpre) tv) tv))) ?_
 refine swp_seq ?_
 refine zR [6] [8,24,25,26] (Ak 2 tv) ?_
 refine swp_ret ?_
 exact zT [24,25,26] (An (Ak 1 tv) (An (An (An (ci (o6 hpre)) (zr nilN)) (An (An (ci (o7 hpre)) (zr nilN)) (An (An (zr 2) (An (o8 hpre) (fun (i1:Nat)=>(fun (y2:i1 < List.length (Frm.strips (grownF f (Int.toNat p) n)))=>(o9 hpre i1 y2))))) (An (An (zr 3) (An (o10 hpre) (fun (i3:Nat)=>(fun (y4:i3 < List.length (Frm.pieces (grownF f (Int.toNat p) n)))=>(o11 hpre i3 y4))))) (An (An (zr 1) (An (o12 hpre) (fun (i5:Nat)=>(fun (y6:i5 < List.length (Frm.columns (grownF f (Int.toNat p) n)))=>(o13 hpre i5 y6))))) tv))))) (An (zr true) (An (zr true) (zr true)))))
theorem t29 (f:Frm) (p n:Int):Triple Try.prog 29 (s29 f p n):=by
 apply w29
 all_goals (rintro ⟨hp,h1,h2⟩)
 case o10=>exact (grown_len _ _ _).symm
 case o11 =>
  intro i hi
  rw [grown_pc _ (by omega)]
  refine rec_ei (fun h => ?_) (fun h => ?_)
  ·rw [if_neg h]
  ·rw [if_pos h]; rfl
 all_goals (first | omega | rfl | (intro i hi; rfl))
theorem w79 (a:List (List Int))
  (o0:(List.length a<=64 /\ ∀ (i:Nat),List.length (List.getD a i [])<=64)->(!decide ((↑(List.length a):Int)=(↑(List.length a):Int)))=true->false=true)
  (o1:(List.length a<=64 /\ ∀ (i:Nat),List.length (List.getD a i [])<=64)->(!decide ((↑(List.length a):Int)=(↑(List.length a):Int)))=false->0=(↑0:Int))
  (o2:(List.length a<=64 /\ ∀ (i:Nat),List.length (List.getD a i [])<=64)->(!decide ((↑(List.length a):Int)=(↑(List.length a):Int)))=false->0<=List.length a)
  (o3:(List.length a<=64 /\ ∀ (i:Nat),List.length (List.getD a i [])<=64)->(!decide ((↑(List.length a):Int)=(↑(List.length a):Int)))=false -> ∀ (x1:Nat),x1<=List.length a->decide ((↑x1:Int) < (↑(List.length a):Int))=true->0<=(↑x1:Int))
  (o4:(List.length a<=64 /\ ∀ (i:Nat),List.length (List.getD a i [])<=64)->(!decide ((↑(List.length a):Int)=(↑(List.length a):Int)))=false -> ∀ (x1:Nat),x1<=List.length a->decide ((↑x1:Int) < (↑(List.length a):Int))=true->(↑x1:Int) < (↑(List.length a):Int))
  (o5:(List.length a<=64 /\ ∀ (i:Nat),List.length (List.getD a i [])<=64)->(!decide ((↑(List.length a):Int)=(↑(List.length a):Int)))=false -> ∀ (x1:Nat),x1<=List.length a->decide ((↑x1:Int) < (↑(List.length a):Int))=true->0<=(↑x1:Int))
  (o6:(List.length a<=64 /\ ∀ (i:Nat),List.length (List.getD a i [])<=64)->(!decide ((↑(List.length a):Int)=(↑(List.length a):Int)))=false -> ∀ (x1:Nat),x1<=List.length a->decide ((↑x1:Int) < (↑(List.length a):Int))=true->(↑x1:Int) < (↑(List.length a):Int))
  (o7:(List.length a<=64 /\ ∀ (i:Nat),List.length (List.getD a i [])<=64)->(!decide ((↑(List.length a):Int)=(↑(List.length a):Int)))=false -> ∀ (x1:Nat),x1<=List.length a->decide ((↑x1:Int) < (↑(List.length a):Int))=true->List.length (List.getD a x1 [])<=big)
  (o8:(List.length a<=64 /\ ∀ (i:Nat),List.length (List.getD a i [])<=64)->(!decide ((↑(List.length a):Int)=(↑(List.length a):Int)))=false -> ∀ (x1:Nat),x1<=List.length a->decide ((↑x1:Int) < (↑(List.length a):Int))=true->(!sameInts (List.getD a x1 []) (List.getD a x1 []))=true->false=true)
  (o9:(List.length a<=64 /\ ∀ (i:Nat),List.length (List.getD a i [])<=64)->(!decide ((↑(List.length a):Int)=(↑(List.length a):Int)))=false -> ∀ (x1:Nat),x1<=List.length a->decide ((↑x1:Int) < (↑(List.length a):Int))=true->(!sameInts (List.getD a x1 []) (List.getD a x1 []))=false->inI ((↑x1:Int) + 1))
  (o10:(List.length a<=64 /\ ∀ (i:Nat),List.length (List.getD a i [])<=64)->(!decide ((↑(List.length a):Int)=(↑(List.length a):Int)))=false -> ∀ (x1:Nat),x1<=List.length a->decide ((↑x1:Int) < (↑(List.length a):Int))=true->(!sameInts (List.getD a x1 []) (List.getD a x1 []))=false->(↑x1:Int) + 1=(↑(x1 + 1):Int))
  (o11:(List.length a<=64 /\ ∀ (i:Nat),List.length (List.getD a i [])<=64)->(!decide ((↑(List.length a):Int)=(↑(List.length a):Int)))=false -> ∀ (x1:Nat),x1<=List.length a->decide ((↑x1:Int) < (↑(List.length a):Int))=true->(!sameInts (List.getD a x1 []) (List.getD a x1 []))=false->x1 + 1<=List.length a)
  (o12:(List.length a<=64 /\ ∀ (i:Nat),List.length (List.getD a i [])<=64)->(!decide ((↑(List.length a):Int)=(↑(List.length a):Int)))=false -> ∀ (x1:Nat),x1<=List.length a->decide ((↑x1:Int) < (↑(List.length a):Int))=true->(!sameInts (List.getD a x1 []) (List.getD a x1 []))=false->List.length a - (x1 + 1) < List.length a - x1) :
  Triple Try.prog 79 (s79 a):=by
 refine triple_of Try.func79 rfl Try.call79 T0_ok _ rfl rfl rfl rfl (Nat.le_of_ble_eq_true (by kernel_rfl)) (fun _ _ _ _ h=>h) ?_
 intro hpre C hC _ hE
 obtain ⟨P,w0,E0,av,hA,ro,df⟩:=C
 obtain ⟨rfl,rfl,rfl⟩:=hC
 refine swp_seq ?_
 refine zR [0,1] [] (Ak 1 tv) ?_
 refine swp_seq ?_
 refine swp_seq ?_
 refine zR [0,1,10] [] (Ak 5 tv) ?_
 refine zI (!decide ((↑(List.length a):Int)=(↑(List.length a):Int))) (fun y0 => ?_) (fun y0 => ?_)
 ·refine swp_seq ?_
  refine zR [4] [] (Ak 1 tv) ?_
  refine swp_ret ?_
  exact zT [] (An (Ak 1 tv) (An (An (cb (o0 hpre y0)) (zr nilN)) (An (zr true) (An (zr true) (zr true)))))
 ·refine swp_skip ?_
  refine swp_seq ?_
  refine swp_seq ?_
  refine zR [0,1,5] [] (Ak 1 tv) ?_
  refine swp_block ?_
  refine zL (Hint.ann (h79 a) [(0,aIntss a),(1,aIntss a)] [] 10056) (zE hE [] [] [0,1] [] (An (An (An (zr (aIntss a)) (zr true)) (An (An (zr (aIntss a)) (zr true)) (An (An (ci (o1 hpre y0)) (zr nilN)) tv))) (Ak 1 (An (zr true) (zr true))))) (o2 hpre y0) (fun (x1:Nat) hx1 => ?_)
  refine swp_seq ?_
  refine swp_seq ?_
  refine zR [0,1,5,14] [] (Ak 4 tv) ?_
  refine zI (decide ((↑x1:Int) < (↑(List.length a):Int))) (fun y2 => ?_) (fun y2 => ?_)
  ·refine swp_skip ?_
   refine swp_seq ?_
   refine swp_block ?_
   refine swp_seq ?_
   refine zC ([(8,CallSpec.eq (s40 (List.getD a x1 []) (List.getD a x1 [])) [true,true])]) [0,1,5,26] [] (Ak 2 (An (An (o3 hpre y0 x1 hx1 y2) (o4 hpre y0 x1 hx1 y2)) (Ak 3 (An (An (o5 hpre y0 x1 hx1 y2) (o6 hpre y0 x1 hx1 y2)) (Ak 1 (An (An (An (zr (aInts (List.getD a x1 []))) (An (zr (aInts (List.getD a x1 []))) tv)) (An (t40 (List.getD a x1 []) (List.getD a x1 [])) (An (o7 hpre y0 x1 hx1 y2) (Ak 1 (fun (i3:Env)=>tv))))) (Ak 1 tv))))))) ?_
   refine zI (!sameInts (List.getD a x1 []) (List.getD a x1 [])) (fun y4 => ?_) (fun y4 => ?_)
   ·refine swp_seq ?_
    refine zR [4] [] (Ak 1 tv) ?_
    refine swp_ret ?_
    exact zT [] (An (Ak 1 tv) (An (An (cb (o8 hpre y0 x1 hx1 y2 y4)) (zr nilN)) (An (zr true) (An (zr true) (zr true)))))
   ·refine swp_skip ?_
    refine zR [0,1,5] [] (Ak 1 (An (o9 hpre y0 x1 hx1 y2 y4) (Ak 1 tv))) ?_
    exact zn (zE hE [] [] [0,1] [] (An (An (An (zr (aIntss a)) (zr true)) (An (An (zr (aIntss a)) (zr true)) (An (An (ci (o10 hpre y0 x1 hx1 y2 y4)) (zr nilN)) tv))) (Ak 1 (An (zr true) (zr true))))) (o11 hpre y0 x1 hx1 y2 y4) (o12 hpre y0 x1 hx1 y2 y4)
  ·refine swp_exit ?_
   refine swp_seq ?_
   refine zR [4] [] (Ak 1 tv) ?_
   refine swp_ret ?_
   exact zT [] (An (Ak 1 tv) (An (An (zr (bv true)) (zr nilN)) (An (zr true) (An (zr true) (zr true)))))
theorem same_self (l:List Int):sameInts l l=true:=by unfold sameInts; simp
theorem t79 (a:List (List Int)):Triple Try.prog 79 (s79 a):=by
 apply w79
 all_goals (rintro ⟨h1,h2⟩; intro h)
 case o0=>simp at h
 case o1=>rfl
 case o2=>omega
 all_goals (intro x hx hx2; simp only [decide_eq_true_eq,decide_eq_false_iff_not] at hx2; have h3:=h2 x)
 case o7=>simp only [big]; omega
 case o8=>intro hh; rw [same_self] at hh; cases hh
 all_goals (first | omega | (intro _; first | omega | (simp only [inI]; omega)))
theorem w39 (f:Frm)
  (o0:smallF f->(!decide (Frm.length f=Frm.length f))=false->(!!decide (Frm.length f=Frm.length f))=true)
  (o1:smallF f->(bif !decide (Frm.length f=Frm.length f) then true else !decide (Frm.slack f=Frm.slack f))=false->(!bif !decide (Frm.length f=Frm.length f) then true else !decide (Frm.slack f=Frm.slack f))=true)
  (o2:smallF f->(bif bif !decide (Frm.length f=Frm.length f) then true else !decide (Frm.slack f=Frm.slack f) then true else !decide ((↑(List.length (Frm.strips f)):Int)=(↑(List.length (Frm.strips f)):Int)))=false->(!bif bif !decide (Frm.length f=Frm.length f) then true else !decide (Frm.slack f=Frm.slack f) then true else !decide ((↑(List.length (Frm.strips f)):Int)=(↑(List.length (Frm.strips f)):Int)))=true)
  (o3:smallF f->(!bif bif bif !decide (Frm.length f=Frm.length f) then true else !decide (Frm.slack f=Frm.slack f) then true else !decide ((↑(List.length (Frm.strips f)):Int)=(↑(List.length (Frm.strips f)):Int)) then true else !decide ((↑(List.length (Frm.pieces f)):Int)=(↑(List.length (Frm.pieces f)):Int)))=true -> ∀ (i50:Nat),i50 < List.length (Frm.columns f) -> [aInts (col f i50)] = [aInts (List.getD (Frm.columns f) i50 [])])
  (o4:smallF f->(!bif bif bif !decide (Frm.length f=Frm.length f) then true else !decide (Frm.slack f=Frm.slack f) then true else !decide ((↑(List.length (Frm.strips f)):Int)=(↑(List.length (Frm.strips f)):Int)) then true else !decide ((↑(List.length (Frm.pieces f)):Int)=(↑(List.length (Frm.pieces f)):Int)))=true -> ∀ (i52:Nat),i52 < List.length (Frm.columns f) -> [aInts (col f i52)] = [aInts (List.getD (Frm.columns f) i52 [])])
  (o5:smallF f->(!bif bif bif !decide (Frm.length f=Frm.length f) then true else !decide (Frm.slack f=Frm.slack f) then true else !decide ((↑(List.length (Frm.strips f)):Int)=(↑(List.length (Frm.strips f)):Int)) then true else !decide ((↑(List.length (Frm.pieces f)):Int)=(↑(List.length (Frm.pieces f)):Int)))=true->List.length (Frm.columns f)<=64)
  (o6:smallF f->(!bif bif bif !decide (Frm.length f=Frm.length f) then true else !decide (Frm.slack f=Frm.slack f) then true else !decide ((↑(List.length (Frm.strips f)):Int)=(↑(List.length (Frm.strips f)):Int)) then true else !decide ((↑(List.length (Frm.pieces f)):Int)=(↑(List.length (Frm.pieces f)):Int)))=true -> ∀ (i54:Nat),List.length (List.getD (Frm.columns f) i54 [])<=64)
  (o7:smallF f->(bif bif bif !decide (Frm.length f=Frm.length f) then true else !decide (Frm.slack f=Frm.slack f) then true else !decide ((↑(List.length (Frm.strips f)):Int)=(↑(List.length (Frm.strips f)):Int)) then true else !decide ((↑(List.length (Frm.pieces f)):Int)=(↑(List.length (Frm.pieces f)):Int)))=false->(!bif bif bif !decide (Frm.length f=Frm.length f) then true else !decide (Frm.slack f=Frm.slack f) then true else !decide ((↑(List.length (Frm.strips f)):Int)=(↑(List.length (Frm.strips f)):Int)) then true else !decide ((↑(List.length (Frm.pieces f)):Int)=(↑(List.length (Frm.pieces f)):Int)))=true)
  (o8:smallF f->(bif bif bif bif !decide (Frm.length f=Frm.length f) then true else !decide (Frm.slack f=Frm.slack f) then true else !decide ((↑(List.length (Frm.strips f)):Int)=(↑(List.length (Frm.strips f)):Int)) then true else !decide ((↑(List.length (Frm.pieces f)):Int)=(↑(List.length (Frm.pieces f)):Int)) then true else false)=true->false=true)
  (o9:smallF f->(bif bif bif bif !decide (Frm.length f=Frm.length f) then true else !decide (Frm.slack f=Frm.slack f) then true else !decide ((↑(List.length (Frm.strips f)):Int)=(↑(List.length (Frm.strips f)):Int)) then true else !decide ((↑(List.length (Frm.pieces f)):Int)=(↑(List.length (Frm.pieces f)):Int)) then true else false)=false->0=(↑0:Int))
  (o10:smallF f->(bif bif bif bif !decide (Frm.length f=Frm.length f) then true else !decide (Frm.slack f=Frm.slack f) then true else !decide ((↑(List.length (Frm.strips f)):Int)=(↑(List.length (Frm.strips f)):Int)) then true else !decide ((↑(List.length (Frm.pieces f)):Int)=(↑(List.length (Frm.pieces f)):Int)) then true else false)=false->0<=List.length (Frm.strips f))
  (o11:smallF f->(bif bif bif bif !decide (Frm.length f=Frm.length f) then true else !decide (Frm.slack f=Frm.slack f) then true else !decide ((↑(List.length (Frm.strips f)):Int)=(↑(List.length (Frm.strips f)):Int)) then true else !decide ((↑(List.length (Frm.pieces f)):Int)=(↑(List.length (Frm.pieces f)):Int)) then true else false)=false -> ∀ (x61:Nat),x61<=List.length (Frm.strips f)->decide ((↑x61:Int) < (↑(List.length (Frm.strips f)):Int))=true->0<=(↑x61:Int))
  (o12:smallF f->(bif bif bif bif !decide (Frm.length f=Frm.length f) then true else !decide (Frm.slack f=Frm.slack f) then true else !decide ((↑(List.length (Frm.strips f)):Int)=(↑(List.length (Frm.strips f)):Int)) then true else !decide ((↑(List.length (Frm.pieces f)):Int)=(↑(List.length (Frm.pieces f)):Int)) then true else false)=false -> ∀ (x61:Nat),x61<=List.length (Frm.strips f)->decide ((↑x61:Int) < (↑(List.length (Frm.strips f)):Int))=true->(↑x61:Int) < (↑(List.length (Frm.strips f)):Int))
  (o13:smallF f->(bif bif bif bif !decide (Frm.length f=Frm.length f) then true else !decide (Frm.slack f=Frm.slack f) then true else !decide ((↑(List.length (Frm.strips f)):Int)=(↑(List.length (Frm.strips f)):Int)) then true else !decide ((↑(List.length (Frm.pieces f)):Int)=(↑(List.length (Frm.pieces f)):Int)) then true else false)=false -> ∀ (x61:Nat),x61<=List.length (Frm.strips f)->decide ((↑x61:Int) < (↑(List.length (Frm.strips f)):Int))=true->0<=(↑x61:Int))
  (o14:smallF f->(bif bif bif bif !decide (Frm.length f=Frm.length f) then true else !decide (Frm.slack f=Frm.slack f) then true else !decide ((↑(List.length (Frm.strips f)):Int)=(↑(List.length (Frm.strips f)):Int)) then true else !decide ((↑(List.length (Frm.pieces f)):Int)=(↑(List.length (Frm.pieces f)):Int)) then true else false)=false -> ∀ (x61:Nat),x61<=List.length (Frm.strips f)->decide ((↑x61:Int) < (↑(List.length (Frm.strips f)):Int))=true->(↑x61:Int) < (↑(List.length (Frm.strips f)):Int))
  (o15:smallF f->(bif bif bif bif !decide (Frm.length f=Frm.length f) then true else !decide (Frm.slack f=Frm.slack f) then true else !decide ((↑(List.length (Frm.strips f)):Int)=(↑(List.length (Frm.strips f)):Int)) then true else !decide ((↑(List.length (Frm.pieces f)):Int)=(↑(List.length (Frm.pieces f)):Int)) then true else false)=false -> ∀ (x61:Nat),x61<=List.length (Frm.strips f)->decide ((↑x61:Int) < (↑(List.length (Frm.strips f)):Int))=true->(!(decide (Strip.thick (stp f x61)=Strip.thick (stp f x61)) && (decide (Strip.many (stp f x61)=Strip.many (stp f x61)) && true)))=true->false=true)
  (o16:smallF f->(bif bif bif bif !decide (Frm.length f=Frm.length f) then true else !decide (Frm.slack f=Frm.slack f) then true else !decide ((↑(List.length (Frm.strips f)):Int)=(↑(List.length (Frm.strips f)):Int)) then true else !decide ((↑(List.length (Frm.pieces f)):Int)=(↑(List.length (Frm.pieces f)):Int)) then true else false)=false -> ∀ (x61:Nat),x61<=List.length (Frm.strips f)->decide ((↑x61:Int) < (↑(List.length (Frm.strips f)):Int))=true->(!(decide (Strip.thick (stp f x61)=Strip.thick (stp f x61)) && (decide (Strip.many (stp f x61)=Strip.many (stp f x61)) && true)))=false->inI ((↑x61:Int) + 1))
  (o17:smallF f->(bif bif bif bif !decide (Frm.length f=Frm.length f) then true else !decide (Frm.slack f=Frm.slack f) then true else !decide ((↑(List.length (Frm.strips f)):Int)=(↑(List.length (Frm.strips f)):Int)) then true else !decide ((↑(List.length (Frm.pieces f)):Int)=(↑(List.length (Frm.pieces f)):Int)) then true else false)=false -> ∀ (x61:Nat),x61<=List.length (Frm.strips f)->decide ((↑x61:Int) < (↑(List.length (Frm.strips f)):Int))=true->(!(decide (Strip.thick (stp f x61)=Strip.thick (stp f x61)) && (decide (Strip.many (stp f x61)=Strip.many (stp f x61)) && true)))=false->(↑x61:Int) + 1=(↑(x61 + 1):Int))
  (o18:smallF f->(bif bif bif bif !decide (Frm.length f=Frm.length f) then true else !decide (Frm.slack f=Frm.slack f) then true else !decide ((↑(List.length (Frm.strips f)):Int)=(↑(List.length (Frm.strips f)):Int)) then true else !decide ((↑(List.length (Frm.pieces f)):Int)=(↑(List.length (Frm.pieces f)):Int)) then true else false)=false -> ∀ (x61:Nat),x61<=List.length (Frm.strips f)->decide ((↑x61:Int) < (↑(List.length (Frm.strips f)):Int))=true->(!(decide (Strip.thick (stp f x61)=Strip.thick (stp f x61)) && (decide (Strip.many (stp f x61)=Strip.many (stp f x61)) && true)))=false->x61 + 1<=List.length (Frm.strips f))
  (o19:smallF f->(bif bif bif bif !decide (Frm.length f=Frm.length f) then true else !decide (Frm.slack f=Frm.slack f) then true else !decide ((↑(List.length (Frm.strips f)):Int)=(↑(List.length (Frm.strips f)):Int)) then true else !decide ((↑(List.length (Frm.pieces f)):Int)=(↑(List.length (Frm.pieces f)):Int)) then true else false)=false -> ∀ (x61:Nat),x61<=List.length (Frm.strips f)->decide ((↑x61:Int) < (↑(List.length (Frm.strips f)):Int))=true->(!(decide (Strip.thick (stp f x61)=Strip.thick (stp f x61)) && (decide (Strip.many (stp f x61)=Strip.many (stp f x61)) && true)))=false->List.length (Frm.strips f) - (x61 + 1) < List.length (Frm.strips f) - x61)
  (o20:smallF f->(bif bif bif bif !decide (Frm.length f=Frm.length f) then true else !decide (Frm.slack f=Frm.slack f) then true else !decide ((↑(List.length (Frm.strips f)):Int)=(↑(List.length (Frm.strips f)):Int)) then true else !decide ((↑(List.length (Frm.pieces f)):Int)=(↑(List.length (Frm.pieces f)):Int)) then true else false)=false -> ∀ (x61:Nat),x61<=List.length (Frm.strips f)->decide ((↑x61:Int) < (↑(List.length (Frm.strips f)):Int))=false->0=(↑0:Int))
  (o21:smallF f->(bif bif bif bif !decide (Frm.length f=Frm.length f) then true else !decide (Frm.slack f=Frm.slack f) then true else !decide ((↑(List.length (Frm.strips f)):Int)=(↑(List.length (Frm.strips f)):Int)) then true else !decide ((↑(List.length (Frm.pieces f)):Int)=(↑(List.length (Frm.pieces f)):Int)) then true else false)=false -> ∀ (x61:Nat),x61<=List.length (Frm.strips f)->decide ((↑x61:Int) < (↑(List.length (Frm.strips f)):Int))=false->0<=List.length (Frm.pieces f))
  (o22:smallF f->(bif bif bif bif !decide (Frm.length f=Frm.length f) then true else !decide (Frm.slack f=Frm.slack f) then true else !decide ((↑(List.length (Frm.strips f)):Int)=(↑(List.length (Frm.strips f)):Int)) then true else !decide ((↑(List.length (Frm.pieces f)):Int)=(↑(List.length (Frm.pieces f)):Int)) then true else false)=false -> ∀ (x61:Nat),x61<=List.length (Frm.strips f)->decide ((↑x61:Int) < (↑(List.length (Frm.strips f)):Int))=false -> ∀ (x64:Nat),x64<=List.length (Frm.pieces f)->decide ((↑x64:Int) < (↑(List.length (Frm.pieces f)):Int))=true->0<=(↑x64:Int))
  (o23:smallF f->(bif bif bif bif !decide (Frm.length f=Frm.length f) then true else !decide (Frm.slack f=Frm.slack f) then true else !decide ((↑(List.length (Frm.strips f)):Int)=(↑(List.length (Frm.strips f)):Int)) then true else !decide ((↑(List.length (Frm.pieces f)):Int)=(↑(List.length (Frm.pieces f)):Int)) then true else false)=false -> ∀ (x61:Nat),x61<=List.length (Frm.strips f)->decide ((↑x61:Int) < (↑(List.length (Frm.strips f)):Int))=false -> ∀ (x64:Nat),x64<=List.length (Frm.pieces f)->decide ((↑x64:Int) < (↑(List.length (Frm.pieces f)):Int))=true->(↑x64:Int) < (↑(List.length (Frm.pieces f)):Int))
  (o24:smallF f->(bif bif bif bif !decide (Frm.length f=Frm.length f) then true else !decide (Frm.slack f=Frm.slack f) then true else !decide ((↑(List.length (Frm.strips f)):Int)=(↑(List.length (Frm.strips f)):Int)) then true else !decide ((↑(List.length (Frm.pieces f)):Int)=(↑(List.length (Frm.pieces f)):Int)) then true else false)=false -> ∀ (x61:Nat),x61<=List.length (Frm.strips f)->decide ((↑x61:Int) < (↑(List.length (Frm.strips f)):Int))=false -> ∀ (x64:Nat),x64<=List.length (Frm.pieces f)->decide ((↑x64:Int) < (↑(List.length (Frm.pieces f)):Int))=true->0<=(↑x64:Int))
  (o25:smallF f->(bif bif bif bif !decide (Frm.length f=Frm.length f) then true else !decide (Frm.slack f=Frm.slack f) then true else !decide ((↑(List.length (Frm.strips f)):Int)=(↑(List.length (Frm.strips f)):Int)) then true else !decide ((↑(List.length (Frm.pieces f)):Int)=(↑(List.length (Frm.pieces f)):Int)) then true else false)=false -> ∀ (x61:Nat),x61<=List.length (Frm.strips f)->decide ((↑x61:Int) < (↑(List.length (Frm.strips f)):Int))=false -> ∀ (x64:Nat),x64<=List.length (Frm.pieces f)->decide ((↑x64:Int) < (↑(List.length (Frm.pieces f)):Int))=true->(↑x64:Int) < (↑(List.length (Frm.pieces f)):Int))
  (o26:smallF f->(bif bif bif bif !decide (Frm.length f=Frm.length f) then true else !decide (Frm.slack f=Frm.slack f) then true else !decide ((↑(List.length (Frm.strips f)):Int)=(↑(List.length (Frm.strips f)):Int)) then true else !decide ((↑(List.length (Frm.pieces f)):Int)=(↑(List.length (Frm.pieces f)):Int)) then true else false)=false -> ∀ (x61:Nat),x61<=List.length (Frm.strips f)->decide ((↑x61:Int) < (↑(List.length (Frm.strips f)):Int))=false -> ∀ (x64:Nat),x64<=List.length (Frm.pieces f)->decide ((↑x64:Int) < (↑(List.length (Frm.pieces f)):Int))=true->(!(decide (Piece.lo (pc f x64)=Piece.lo (pc f x64)) && (decide (Piece.hi (pc f x64)=Piece.hi (pc f x64)) && (decide (Piece.pence (pc f x64)=Piece.pence (pc f x64)) && true))))=true->false=true)
  (o27:smallF f->(bif bif bif bif !decide (Frm.length f=Frm.length f) then true else !decide (Frm.slack f=Frm.slack f) then true else !decide ((↑(List.length (Frm.strips f)):Int)=(↑(List.length (Frm.strips f)):Int)) then true else !decide ((↑(List.length (Frm.pieces f)):Int)=(↑(List.length (Frm.pieces f)):Int)) then true else false)=false -> ∀ (x61:Nat),x61<=List.length (Frm.strips f)->decide ((↑x61:Int) < (↑(List.length (Frm.strips f)):Int))=false -> ∀ (x64:Nat),x64<=List.length (Frm.pieces f)->decide ((↑x64:Int) < (↑(List.length (Frm.pieces f)):Int))=true->(!(decide (Piece.lo (pc f x64)=Piece.lo (pc f x64)) && (decide (Piece.hi (pc f x64)=Piece.hi (pc f x64)) && (decide (Piece.pence (pc f x64)=Piece.pence (pc f x64)) && true))))=false->inI ((↑x64:Int) + 1))
  (o28:smallF f->(bif bif bif bif !decide (Frm.length f=Frm.length f) then true else !decide (Frm.slack f=Frm.slack f) then true else !decide ((↑(List.length (Frm.strips f)):Int)=(↑(List.length (Frm.strips f)):Int)) then true else !decide ((↑(List.length (Frm.pieces f)):Int)=(↑(List.length (Frm.pieces f)):Int)) then true else false)=false -> ∀ (x61:Nat),x61<=List.length (Frm.strips f)->decide ((↑x61:Int) < (↑(List.length (Frm.strips f)):Int))=false -> ∀ (x64:Nat),x64<=List.length (Frm.pieces f)->decide ((↑x64:Int) < (↑(List.length (Frm.pieces f)):Int))=true->(!(decide (Piece.lo (pc f x64)=Piece.lo (pc f x64)) && (decide (Piece.hi (pc f x64)=Piece.hi (pc f x64)) && (decide (Piece.pence (pc f x64)=Piece.pence (pc f x64)) && true))))=false->(↑x64:Int) + 1=(↑(x64 + 1):Int))
  (o29:smallF f->(bif bif bif bif !decide (Frm.length f=Frm.length f) then true else !decide (Frm.slack f=Frm.slack f) then true else !decide ((↑(List.length (Frm.strips f)):Int)=(↑(List.length (Frm.strips f)):Int)) then true else !decide ((↑(List.length (Frm.pieces f)):Int)=(↑(List.length (Frm.pieces f)):Int)) then true else false)=false -> ∀ (x61:Nat),x61<=List.length (Frm.strips f)->decide ((↑x61:Int) < (↑(List.length (Frm.strips f)):Int))=false -> ∀ (x64:Nat),x64<=List.length (Frm.pieces f)->decide ((↑x64:Int) < (↑(List.length (Frm.pieces f)):Int))=true->(!(decide (Piece.lo (pc f x64)=Piece.lo (pc f x64)) && (decide (Piece.hi (pc f x64)=Piece.hi (pc f x64)) && (decide (Piece.pence (pc f x64)=Piece.pence (pc f x64)) && true))))=false->x64 + 1<=List.length (Frm.pieces f))
  (o30:smallF f->(bif bif bif bif !decide (Frm.length f=Frm.length f) then true else !decide (Frm.slack f=Frm.slack f) then true else !decide ((↑(List.length (Frm.strips f)):Int)=(↑(List.length (Frm.strips f)):Int)) then true else !decide ((↑(List.length (Frm.pieces f)):Int)=(↑(List.length (Frm.pieces f)):Int)) then true else false)=false -> ∀ (x61:Nat),x61<=List.length (Frm.strips f)->decide ((↑x61:Int) < (↑(List.length (Frm.strips f)):Int))=false -> ∀ (x64:Nat),x64<=List.length (Frm.pieces f)->decide ((↑x64:Int) < (↑(List.length (Frm.pieces f)):Int))=true->(!(decide (Piece.lo (pc f x64)=Piece.lo (pc f x64)) && (decide (Piece.hi (pc f x64)=Piece.hi (pc f x64)) && (decide (Piece.pence (pc f x64)=Piece.pence (pc f x64)) && true))))=false->List.length (Frm.pieces f) - (x64 + 1) < List.length (Frm.pieces f) - x64) :
  Triple Try.prog 39 (s39 f):=by
 refine triple_of Try.func39 rfl Try.call39 T0_ok _ rfl rfl rfl rfl (Nat.le_of_ble_eq_true (by kernel_rfl)) (fun _ _ _ _ h=>h) ?_
 intro hpre C hC _ hE
 obtain ⟨P,w0,E0,av,hA,ro,df⟩:=C
 obtain ⟨rfl,rfl,rfl⟩:=hC
 refine swp_seq ?_
 refine zR [2,3] [0,8] (Ak 3 tv) ?_
 refine swp_seq ?_
 refine swp_seq ?_
 refine zC ([(35,CallSpec.eq (s79 (Frm.columns f)) [false,false])]) [2,3,44] [0,8] (Ak 6 (An (fun (y0:(!!decide (Frm.length f=Frm.length f))=true)=>(An (Ak 1 tv) tv)) (An (fun (y1:(!!decide (Frm.length f=Frm.length f))=true)=>(An (An (fun (y2:(!!decide (Frm.length f=Frm.length f))=true)=>y1) tv) tv)) (An (fun (y3:(!!decide (Frm.length f=Frm.length f))=true)=>(An (Ak 1 tv) tv)) (An (fun (y4:(!!decide (Frm.length f=Frm.length f))=true)=>(An (An (fun (y5:(!!decide (Frm.length f=Frm.length f))=true)=>y4) tv) tv)) (An (fun (y6:(!!decide (Frm.length f=Frm.length f))=true)=>(An (An (fun (y7:(!!decide (Frm.length f=Frm.length f))=true)=>y6) (An (fun (y8:(!!decide (Frm.length f=Frm.length f))=true)=>y6) tv)) tv)) (An (An (fun (y9:(!decide (Frm.length f=Frm.length f))=true)=>tv) (fun (y10:(!decide (Frm.length f=Frm.length f))=false)=>(o0 hpre y10))) (Ak 1 (An (fun (y11:(!bif !decide (Frm.length f=Frm.length f) then true else !decide (Frm.slack f=Frm.slack f))=true)=>(An (Ak 1 tv) tv)) (An (fun (y12:(!bif !decide (Frm.length f=Frm.length f) then true else !decide (Frm.slack f=Frm.slack f))=true)=>(An (An (fun (y13:(!bif !decide (Frm.length f=Frm.length f) then true else !decide (Frm.slack f=Frm.slack f))=true)=>y12) tv) tv)) (An (fun (y14:(!bif !decide (Frm.length f=Frm.length f) then true else !decide (Frm.slack f=Frm.slack f))=true)=>(An (An (fun (y15:(!bif !decide (Frm.length f=Frm.length f) then true else !decide (Frm.slack f=Frm.slack f))=true)=>y14) tv) tv)) (An (fun (y16:(!bif !decide (Frm.length f=Frm.length f) then true else !decide (Frm.slack f=Frm.slack f))=true)=>(An (Ak 1 tv) tv)) (An (fun (y17:(!bif !decide (Frm.length f=Frm.length f) then true else !decide (Frm.slack f=Frm.slack f))=true)=>(An (An (fun (y18:(!bif !decide (Frm.length f=Frm.length f) then true else !decide (Frm.slack f=Frm.slack f))=true)=>y17) tv) tv)) (An (fun (y19:(!bif !decide (Frm.length f=Frm.length f) then true else !decide (Frm.slack f=Frm.slack f))=true)=>(An (An (fun (y20:(!bif !decide (Frm.length f=Frm.length f) then true else !decide (Frm.slack f=Frm.slack f))=true)=>y19) tv) tv)) (An (fun (y21:(!bif !decide (Frm.length f=Frm.length f) then true else !decide (Frm.slack f=Frm.slack f))=true)=>(An (An (fun (y22:(!bif !decide (Frm.length f=Frm.length f) then true else !decide (Frm.slack f=Frm.slack f))=true)=>y21) (An (fun (y23:(!bif !decide (Frm.length f=Frm.length f) then true else !decide (Frm.slack f=Frm.slack f))=true)=>y21) tv)) tv)) (An (An (fun (y24:(bif !decide (Frm.length f=Frm.length f) then true else !decide (Frm.slack f=Frm.slack f))=true)=>tv) (fun (y25:(bif !decide (Frm.length f=Frm.length f) then true else !decide (Frm.slack f=Frm.slack f))=false)=>(o1 hpre y25))) (Ak 1 (An (fun (y26:(!bif bif !decide (Frm.length f=Frm.length f) then true else !decide (Frm.slack f=Frm.slack f) then true else !decide ((↑(List.length (Frm.strips f)):Int)=(↑(List.length (Frm.strips f)):Int)))=true)=>(An (Ak 1 tv) tv)) (An (fun (y27:(!bif bif !decide (Frm.length f=Frm.length f) then true else !decide (Frm.slack f=Frm.slack f) then true else !decide ((↑(List.length (Frm.strips f)):Int)=(↑(List.length (Frm.strips f)):Int)))=true)=>(An (An (fun (y28:(!bif bif !decide (Frm.length f=Frm.length f) then true else !decide (Frm.slack f=Frm.slack f) then true else !decide ((↑(List.length (Frm.strips f)):Int)=(↑(List.length (Frm.strips f)):Int)))=true)=>y27) tv) tv)) (An (fun (y29:(!bif bif !decide (Frm.length f=Frm.length f) then true else !decide (Frm.slack f=Frm.slack f) then true else !decide ((↑(List.length (Frm.strips f)):Int)=(↑(List.length (Frm.strips f)):Int)))=true)=>(An (An (fun (y30:(!bif bif !decide (Frm.length f=Frm.length f) then true else !decide (Frm.slack f=Frm.slack f) then true else !decide ((↑(List.length (Frm.strips f)):Int)=(↑(List.length (Frm.strips f)):Int)))=true)=>y29) tv) tv)) (An (fun (y31:(!bif bif !decide (Frm.length f=Frm.length f) then true else !decide (Frm.slack f=Frm.slack f) then true else !decide ((↑(List.length (Frm.strips f)):Int)=(↑(List.length (Frm.strips f)):Int)))=true)=>(An (Ak 1 tv) tv)) (An (fun (y32:(!bif bif !decide (Frm.length f=Frm.length f) then true else !decide (Frm.slack f=Frm.slack f) then true else !decide ((↑(List.length (Frm.strips f)):Int)=(↑(List.length (Frm.strips f)):Int)))=true)=>(An (An (fun (y33:(!bif bif !decide (Frm.length f=Frm.length f) then true else !decide (Frm.slack f=Frm.slack f) then true else !decide ((↑(List.length (Frm.strips f)):Int)=(↑(List.length (Frm.strips f)):Int)))=true)=>y32) tv) tv)) (An (fun (y34:(!bif bif !decide (Frm.length f=Frm.length f) then true else !decide (Frm.slack f=Frm.slack f) then true else !decide ((↑(List.length (Frm.strips f)):Int)=(↑(List.length (Frm.strips f)):Int)))=true)=>(An (An (fun (y35:(!bif bif !decide (Frm.length f=Frm.length f) then true else !decide (Frm.slack f=Frm.slack f) then true else !decide ((↑(List.length (Frm.strips f)):Int)=(↑(List.length (Frm.strips f)):Int)))=true)=>y34) tv) tv)) (An (fun (y36:(!bif bif !decide (Frm.length f=Frm.length f) then true else !decide (Frm.slack f=Frm.slack f) then true else !decide ((↑(List.length (Frm.strips f)):Int)=(↑(List.length (Frm.strips f)):Int)))=true)=>(An (An (fun (y37:(!bif bif !decide (Frm.length f=Frm.length f) then true else !decide (Frm.slack f=Frm.slack f) then true else !decide ((↑(List.length (Frm.strips f)):Int)=(↑(List.length (Frm.strips f)):Int)))=true)=>y36) (An (fun (y38:(!bif bif !decide (Frm.length f=Frm.length f) then true else !decide (Frm.slack f=Frm.slack f) then true else !decide ((↑(List.length (Frm.strips f)):Int)=(↑(List.length (Frm.strips f)):Int)))=true)=>y36) tv)) tv)) (An (An (fun (y39:(bif bif !decide (Frm.length f=Frm.length f) then true else !decide (Frm.slack f=Frm.slack f) then true else !decide ((↑(List.length (Frm.strips f)):Int)=(↑(List.length (Frm.strips f)):Int)))=true)=>tv) (fun (y40:(bif bif !decide (Frm.length f=Frm.length f) then true else !decide (Frm.slack f=Frm.slack f) then true else !decide ((↑(List.length (Frm.strips f)):Int)=(↑(List.length (Frm.strips f)):Int)))=false)=>(o2 hpre y40))) (Ak 1 (An (fun (y41:(!bif bif bif !decide (Frm.length f=Frm.length f) then true else !decide (Frm.slack f=Frm.slack f) then true else !decide ((↑(List.length (Frm.strips f)):Int)=(↑(List.length (Frm.strips f)):Int)) then true else !decide ((↑(List.length (Frm.pieces f)):Int)=(↑(List.length (Frm.pieces f)):Int)))=true)=>(An (Ak 1 tv) tv)) (An (fun (y42:(!bif bif bif !decide (Frm.length f=Frm.length f) then true else !decide (Frm.slack f=Frm.slack f) then true else !decide ((↑(List.length (Frm.strips f)):Int)=(↑(List.length (Frm.strips f)):Int)) then true else !decide ((↑(List.length (Frm.pieces f)):Int)=(↑(List.length (Frm.pieces f)):Int)))=true)=>(An (An (fun (y43:(!bif bif bif !decide (Frm.length f=Frm.length f) then true else !decide (Frm.slack f=Frm.slack f) then true else !decide ((↑(List.length (Frm.strips f)):Int)=(↑(List.length (Frm.strips f)):Int)) then true else !decide ((↑(List.length (Frm.pieces f)):Int)=(↑(List.length (Frm.pieces f)):Int)))=true)=>y42) tv) tv)) (An (fun (y44:(!bif bif bif !decide (Frm.length f=Frm.length f) then true else !decide (Frm.slack f=Frm.slack f) then true else !decide ((↑(List.length (Frm.strips f)):Int)=(↑(List.length (Frm.strips f)):Int)) then true else !decide ((↑(List.length (Frm.pieces f)):Int)=(↑(List.length (Frm.pieces f)):Int)))=true)=>(An (Ak 1 tv) tv)) (An (fun (y45:(!bif bif bif !decide (Frm.length f=Frm.length f) then true else !decide (Frm.slack f=Frm.slack f) then true else !decide ((↑(List.length (Frm.strips f)):Int)=(↑(List.length (Frm.strips f)):Int)) then true else !decide ((↑(List.length (Frm.pieces f)):Int)=(↑(List.length (Frm.pieces f)):Int)))=true)=>(An (An (fun (y46:(!bif bif bif !decide (Frm.length f=Frm.length f) then true else !decide (Frm.slack f=Frm.slack f) then true else !decide ((↑(List.length (Frm.strips f)):Int)=(↑(List.length (Frm.strips f)):Int)) then true else !decide ((↑(List.length (Frm.pieces f)):Int)=(↑(List.length (Frm.pieces f)):Int)))=true)=>y45) tv) tv)) (An (fun (y47:(!bif bif bif !decide (Frm.length f=Frm.length f) then true else !decide (Frm.slack f=Frm.slack f) then true else !decide ((↑(List.length (Frm.strips f)):Int)=(↑(List.length (Frm.strips f)):Int)) then true else !decide ((↑(List.length (Frm.pieces f)):Int)=(↑(List.length (Frm.pieces f)):Int)))=true)=>(An (Ak 1 (An (fun (y48:(!bif bif bif !decide (Frm.length f=Frm.length f) then true else !decide (Frm.slack f=Frm.slack f) then true else !decide ((↑(List.length (Frm.strips f)):Int)=(↑(List.length (Frm.strips f)):Int)) then true else !decide ((↑(List.length (Frm.pieces f)):Int)=(↑(List.length (Frm.pieces f)):Int)))=true)=>y47) (An (fun (y49:(!bif bif bif !decide (Frm.length f=Frm.length f) then true else !decide (Frm.slack f=Frm.slack f) then true else !decide ((↑(List.length (Frm.strips f)):Int)=(↑(List.length (Frm.strips f)):Int)) then true else !decide ((↑(List.length (Frm.pieces f)):Int)=(↑(List.length (Frm.pieces f)):Int)))=true)=>y47) tv))) (An (An (An (zr 1) (An (zr (List.length (Frm.columns f))) (fun (i50:Nat)=>(fun (y51:i50 < List.length (Frm.columns f))=>(o3 hpre y47 i50 y51))))) (An (An (zr 1) (An (zr (List.length (Frm.columns f))) (fun (i52:Nat)=>(fun (y53:i52 < List.length (Frm.columns f))=>(o4 hpre y47 i52 y53))))) tv)) (An (t79 (Frm.columns f)) (An (An (o5 hpre y47) (fun (i54:Nat)=>(o6 hpre y47 i54))) (Ak 1 (fun (i55:Env)=>tv))))))) (An (fun (y56:(!bif bif bif !decide (Frm.length f=Frm.length f) then true else !decide (Frm.slack f=Frm.slack f) then true else !decide ((↑(List.length (Frm.strips f)):Int)=(↑(List.length (Frm.strips f)):Int)) then true else !decide ((↑(List.length (Frm.pieces f)):Int)=(↑(List.length (Frm.pieces f)):Int)))=true)=>(An (An (fun (y57:(!bif bif bif !decide (Frm.length f=Frm.length f) then true else !decide (Frm.slack f=Frm.slack f) then true else !decide ((↑(List.length (Frm.strips f)):Int)=(↑(List.length (Frm.strips f)):Int)) then true else !decide ((↑(List.length (Frm.pieces f)):Int)=(↑(List.length (Frm.pieces f)):Int)))=true)=>y56) tv) tv)) (An (An (fun (y58:(bif bif bif !decide (Frm.length f=Frm.length f) then true else !decide (Frm.slack f=Frm.slack f) then true else !decide ((↑(List.length (Frm.strips f)):Int)=(↑(List.length (Frm.strips f)):Int)) then true else !decide ((↑(List.length (Frm.pieces f)):Int)=(↑(List.length (Frm.pieces f)):Int)))=true)=>tv) (fun (y59:(bif bif bif !decide (Frm.length f=Frm.length f) then true else !decide (Frm.slack f=Frm.slack f) then true else !decide ((↑(List.length (Frm.strips f)):Int)=(↑(List.length (Frm.strips f)):Int)) then true else !decide ((↑(List.length (Frm.pieces f)):Int)=(↑(List.length (Frm.pieces f)):Int)))=false)=>(o7 hpre y59))) tv))))))))))))))))))))))))))))))))) ?_
 refine zI (bif bif bif bif !decide (Frm.length f=Frm.length f) then true else !decide (Frm.slack f=Frm.slack f) then true else !decide ((↑(List.length (Frm.strips f)):Int)=(↑(List.length (Frm.strips f)):Int)) then true else !decide ((↑(List.length (Frm.pieces f)):Int)=(↑(List.length (Frm.pieces f)):Int)) then true else false) (fun y60 => ?_) (fun y60 => ?_)
 ·refine swp_seq ?_
  refine zR [4] [] (Ak 1 tv) ?_
  refine swp_ret ?_
  exact zT [] (An (Ak 1 tv) (An (An (cb (o8 hpre y60)) (zr nilN)) (An (zr true) (An (zr true) (zr true)))))
 ·refine swp_skip ?_
  refine swp_seq ?_
  refine swp_seq ?_
  refine zR [2,3,5] [0,8] (Ak 1 tv) ?_
  refine swp_block ?_
  refine zL (Hint.ann (h39a f) [(2,AV.ptr 0 []),(3,AV.ptr 8 [])] [(0,OB.cells 26 (cFrm f)),(8,OB.cells 26 (cFrm f))] 10336) (zE hE [] [(0,.same 0),(8,.same 8)] [] [0,8] (An (An (An (zr (some (Src.same 0))) (zr nilP)) (An (An (zr (some (Src.same 8))) (zr nilP)) (An (An (ci (o9 hpre y60)) (zr nilN)) tv))) (An (An (An (zr (OB.cells 26 (cFrm f))) (zr true)) (An (An (zr (OB.cells 26 (cFrm f))) (zr true)) tv)) (An (zr true) (zr true))))) (o10 hpre y60) (fun (x61:Nat) hx61 => ?_)
  refine swp_seq ?_
  refine swp_seq ?_
  refine zR [2,3,5,49] [0,8] (Ak 5 tv) ?_
  refine zI (decide ((↑x61:Int) < (↑(List.length (Frm.strips f)):Int))) (fun y62 => ?_) (fun y62 => ?_)
  ·refine swp_skip ?_
   refine swp_seq ?_
   refine swp_block ?_
   refine swp_seq ?_
   refine zR [2,3,5,62] [0,8] (Ak 3 (An (An (o11 hpre y60 x61 hx61 y62) (o12 hpre y60 x61 hx61 y62)) (Ak 4 (An (An (o13 hpre y60 x61 hx61 y62) (o14 hpre y60 x61 hx61 y62)) (Ak 2 tv))))) ?_
   refine zI (!(decide (Strip.thick (stp f x61)=Strip.thick (stp f x61)) && (decide (Strip.many (stp f x61)=Strip.many (stp f x61)) && true))) (fun y63 => ?_) (fun y63 => ?_)
   ·refine swp_seq ?_
    refine zR [4] [] (Ak 1 tv) ?_
    refine swp_ret ?_
    exact zT [] (An (Ak 1 tv) (An (An (cb (o15 hpre y60 x61 hx61 y62 y63)) (zr nilN)) (An (zr true) (An (zr true) (zr true)))))
   ·refine swp_skip ?_
    refine zR [2,3,5] [0,8] (Ak 1 (An (o16 hpre y60 x61 hx61 y62 y63) (Ak 1 tv))) ?_
    exact zn (zE hE [] [(0,.same 0),(8,.same 8)] [] [0,8] (An (An (An (zr (some (Src.same 0))) (zr nilP)) (An (An (zr (some (Src.same 8))) (zr nilP)) (An (An (ci (o17 hpre y60 x61 hx61 y62 y63)) (zr nilN)) tv))) (An (An (An (zr (OB.cells 26 (cFrm f))) (zr true)) (An (An (zr (OB.cells 26 (cFrm f))) (zr true)) tv)) (An (zr true) (zr true))))) (o18 hpre y60 x61 hx61 y62 y63) (o19 hpre y60 x61 hx61 y62 y63)
  ·refine swp_exit ?_
   refine swp_seq ?_
   refine swp_seq ?_
   refine zR [2,3,6] [0,8] (Ak 1 tv) ?_
   refine swp_block ?_
   refine zL (Hint.ann (h39b f) [(2,AV.ptr 0 []),(3,AV.ptr 8 [])] [(0,OB.cells 26 (cFrm f)),(8,OB.cells 26 (cFrm f))] 20384) (zE hE [] [(0,.same 0),(8,.same 8)] [] [0,8] (An (An (An (zr (some (Src.same 0))) (zr nilP)) (An (An (zr (some (Src.same 8))) (zr nilP)) (An (An (ci (o20 hpre y60 x61 hx61 y62)) (zr nilN)) tv))) (An (An (An (zr (OB.cells 26 (cFrm f))) (zr true)) (An (An (zr (OB.cells 26 (cFrm f))) (zr true)) tv)) (An (zr true) (zr true))))) (o21 hpre y60 x61 hx61 y62) (fun (x64:Nat) hx64 => ?_)
   refine swp_seq ?_
   refine swp_seq ?_
   refine zR [2,3,6,67] [0,8] (Ak 5 tv) ?_
   refine zI (decide ((↑x64:Int) < (↑(List.length (Frm.pieces f)):Int))) (fun y65 => ?_) (fun y65 => ?_)
   ·refine swp_skip ?_
    refine swp_seq ?_
    refine swp_block ?_
    refine swp_seq ?_
    refine zR [2,3,6,80] [0,8] (Ak 3 (An (An (o22 hpre y60 x61 hx61 y62 x64 hx64 y65) (o23 hpre y60 x61 hx61 y62 x64 hx64 y65)) (Ak 4 (An (An (o24 hpre y60 x61 hx61 y62 x64 hx64 y65) (o25 hpre y60 x61 hx61 y62 x64 hx64 y65)) (Ak 2 tv))))) ?_
    refine zI (!(decide (Piece.lo (pc f x64)=Piece.lo (pc f x64)) && (decide (Piece.hi (pc f x64)=Piece.hi (pc f x64)) && (decide (Piece.pence (pc f x64)=Piece.pence (pc f x64)) && true)))) (fun y66 => ?_) (fun y66 => ?_)
    ·refine swp_seq ?_
     refine zR [4] [] (Ak 1 tv) ?_
     refine swp_ret ?_
     exact zT [] (An (Ak 1 tv) (An (An (cb (o26 hpre y60 x61 hx61 y62 x64 hx64 y65 y66)) (zr nilN)) (An (zr true) (An (zr true) (zr true)))))
    ·refine swp_skip ?_
     refine zR [2,3,6] [0,8] (Ak 1 (An (o27 hpre y60 x61 hx61 y62 x64 hx64 y65 y66) (Ak 1 tv))) ?_
     exact zn (zE hE [] [(0,.same 0),(8,.same 8)] [] [0,8] (An (An (An (zr (some (Src.same 0))) (zr nilP)) (An (An (zr (some (Src.same 8))) (zr nilP)) (An (An (ci (o28 hpre y60 x61 hx61 y62 x64 hx64 y65 y66)) (zr nilN)) tv))) (An (An (An (zr (OB.cells 26 (cFrm f))) (zr true)) (An (An (zr (OB.cells 26 (cFrm f))) (zr true)) tv)) (An (zr true) (zr true))))) (o29 hpre y60 x61 hx61 y62 x64 hx64 y65 y66) (o30 hpre y60 x61 hx61 y62 x64 hx64 y65 y66)
   ·refine swp_exit ?_
    refine swp_seq ?_
    refine zR [4] [] (Ak 1 tv) ?_
    refine swp_ret ?_
    exact zT [] (An (Ak 1 tv) (An (An (zr (bv true)) (zr nilN)) (An (zr true) (An (zr true) (zr true)))))
theorem t39 (f:Frm):Triple Try.prog 39 (s39 f):=by
 apply w39
 all_goals (rintro ⟨h1,h2,h3,h4⟩)
 case o3 | o4=>intro _ i hi; rfl
 all_goals (try (intro _ i; exact h4 i))
 all_goals (simp only [decide_true,Bool.not_true,Bool.not_false,cond_false,cond_true,Bool.and_self])
 all_goals (repeat intro _)
 all_goals (try simp only [decide_eq_true_eq,decide_eq_false_iff_not] at *)
 all_goals (first | rfl | omega | (simp only [inI]; omega) | (exact Nat.zero_le _) | (simp_all; done) | skip)
end Go.Ab
namespace Go.Sh
open Go.Ab
def setsFrom (left first:List Int):List (List Int):=(setsP (left.drop first.length)).map (first ++ ·)
def setsTo (left first:List Int) (n:Nat):List (List Int):=(List.range n).flatMap fun (m:Nat)=>setsFrom left (first ++ [(m:Int)])
def laysOf (f:Frm) (c:Nat) (left s:List Int):List (List (List Int)):=if sureP f c (pointsP f s) then (laysC f (f.columns.length - (c + 1)) (restL left s)).map (s :: ·) else []
def laysTo (f:Frm) (c:Nat) (left:List Int) (n:Nat):List (List (List Int)):=((setsP left).take n).flatMap (laysOf f c left)
def setI (left:List Int) (x:Nat):List Int:=(setsP left).getD x []
def moreL (f:Frm) (c:Nat) (left:List Int) (x:Nat):List (List (List Int)):=laysC f (f.columns.length - (c + 1)) (restL left (setI left x))
def laysIn (f:Frm) (c:Nat) (left:List Int) (x k:Nat):List (List (List Int)):=laysTo f c left x ++ ((moreL f c left x).take k).map (setI left x :: ·)
def laysA (f:Frm):List (List (List Int)):=laysC f f.columns.length (stockTo f f.strips.length)
def bestTo (ls:List (List (List Int))) (i:Nat):List (List Int):=if i=0 then ls.getD 0 [] else layS (fmL (ls.take i))
variable {f:Frm} {left first:List Int}
theorem setsFrom_base (h:first.length=left.length):setsFrom left first = [first]:=by
 unfold setsFrom; rw [h,List.drop_length]; show [first ++ []] = [first]; rw [List.append_nil]
theorem setsTo_succ (left first:List Int) (n:Nat):setsTo left first (n + 1)=setsTo left first n ++ setsFrom left (first ++ [(n:Int)]):=by
 unfold setsTo; rw [List.range_succ,List.flatMap_append]; simp
theorem setsTo_end (h:first.length < left.length):setsTo left first ((left.getD first.length 0).toNat + 1)=setsFrom left first:=by
 unfold setsTo setsFrom
 rw [drop_cons 0 h,setsP,List.map_flatMap]
 refine flatMap_congr' fun m _ => ?_
 rw [List.length_append,List.length_singleton,List.map_map]
 refine List.map_congr_left fun s _ => ?_
 show first ++ [(m:Int)] ++ s=first ++ ((m:Int) :: s)
 rw [List.append_assoc]; rfl
theorem prodL_five:∀ {l:List Int},(∀ q,q < l.length->l.getD q 0<=4)->prodL l<=5 ^ l.length:=by
 intro l
 induction l with
 | nil=>intro _; exact Nat.le_refl _
 | cons a l ih =>
  intro h
  have h0:a<=4:=h 0 (Nat.succ_pos _)
  have h1:=ih (fun q hq=>h (q + 1) (Nat.succ_lt_succ hq))
  show (a.toNat + 1) * prodL l<=5 ^ (l.length + 1)
  rw [Nat.pow_succ,Nat.mul_comm (5 ^ _)]
  exact Nat.mul_le_mul (by omega) h1
theorem setsP_len (l:List Int):(setsP l).length=prodL l:=by rw [setsP_eq,List.length_map,List.length_range]
theorem setsFrom_len (h:left.length<=3) (h1:∀ q,q < left.length->left.getD q 0<=4) (first:List Int):(setsFrom left first).length<=125:=by
 unfold setsFrom
 rw [List.length_map,setsP_len]
 refine Nat.le_trans (prodL_five fun q hq => ?_) (Nat.le_trans (Nat.pow_le_pow_right (by omega) (show (left.drop first.length).length<=3 by rw [List.length_drop]; omega)) (by decide))
 rw [List.length_drop] at hq
 rw [getD_drop]; exact h1 _ (by omega)
theorem setsTo_len (h:left.length<=3) (h1:∀ q,q < left.length->left.getD q 0<=4) (first:List Int) (n:Nat):(setsTo left first n).length<=n * 125:=by
 have:=flatMap_len (fun m:Nat=>setsFrom left (first ++ [(m:Int)])) 125 (List.range n) (fun m _=>setsFrom_len h h1 _)
 rw [List.length_range] at this
 exact this
theorem setsFrom_nil (left:List Int):setsFrom left []=setsP left:=by
 unfold setsFrom; rw [List.length_nil,List.drop_zero]; simp
theorem setI_N {x:Nat} (h:x < prodL left):setI left x=setN left x:=by
 unfold setI; rw [setsP_eq,getD_lt _ _ (by rw [List.length_map,List.length_range]; exact h),List.getElem_map,List.getElem_range]
theorem laysTo_succ {c x:Nat} (h:x < (setsP left).length):laysTo f c left (x + 1)=laysTo f c left x ++ laysOf f c left (setI left x):=by
 unfold laysTo setI; rw [take_succ _ [] h,List.flatMap_append]; simp
theorem laysOf_f {c:Nat} {s:List Int} (h:sureP f c (pointsP f s)=false):laysOf f c left s = []:=by unfold laysOf; rw [h]; rfl
theorem laysOf_t {c x:Nat} (h:sureP f c (pointsP f (setI left x))=true):laysOf f c left (setI left x)=(moreL f c left x).map (setI left x :: ·):=by unfold laysOf moreL; rw [if_pos h]
theorem laysTo_end {c:Nat} (h:c < f.columns.length):laysTo f c left (setsP left).length=laysC f (f.columns.length - c) left:=by
 unfold laysTo
 rw [List.take_of_length_le (Nat.le_refl _),show f.columns.length - c=(f.columns.length - (c + 1)) + 1 by omega,laysC,show f.columns.length - (f.columns.length - (c + 1) + 1)=c by omega]
 rfl
theorem prodL_le:∀ {a b:List Int},a.length=b.length->(∀ q,q < a.length->a.getD q 0<=b.getD q 0)->prodL a<=prodL b:=by
 intro a
 induction a with
 | nil=>intro b h _; rw [List.eq_nil_of_length_eq_zero h.symm]; exact Nat.le_refl _
 | cons x a iha =>
  intro b h h2
  match b,h,h2 with
  | y :: b,h,h2 =>
   have h0:x<=y:=h2 0 (Nat.succ_pos _)
   exact Nat.mul_le_mul (by omega) (iha (Nat.succ.inj h) (fun q hq=>h2 (q + 1) (Nat.succ_lt_succ hq)))
theorem rest_prod (hl:GoodLeft f left) {x:Nat} (h:x < prodL left) (hp:prodL left<=30):prodL (restL left (setI left x))<=30:=by
 rw [setI_N h]
 refine Nat.le_trans (prodL_le (restL_len _ _) fun q hq => ?_) hp
 rw [restL_len] at hq
 rw [restL_get hq]
 have:=hl.set h q hq
 omega
theorem pow30 {m:Nat} (h:m<=2):30 ^ m<=900:=by
 have:m=0 ∨ m=1 ∨ m=2:=by omega
 rcases this with rfl | rfl | rfl <;> decide
theorem moreL_len (hs:Sound f) (hl:GoodLeft f left) (hp:prodL left<=30) {c x:Nat} (hx:x < prodL left):(moreL f c left x).length<=900:=by
 unfold moreL
 have hc:=hs.columns
 refine Nat.le_trans (laysC_len hs _ _ ?_ (rest_prod hl hx hp)) (pow30 (by omega))
 rw [setI_N hx]; exact hl.rest hx
theorem laysTo_len (hs:Sound f) (hl:GoodLeft f left) (hp:prodL left<=30) (c:Nat):∀ x:Nat,x<=prodL left->(laysTo f c left x).length<=x * 900:=by
 intro x
 induction x with
 | zero=>intro _; exact Nat.zero_le _
 | succ x ih =>
  intro h
  rw [laysTo_succ (by rw [setsP_len]; omega),List.length_append]
  have h1:=ih (by omega)
  have h2:(laysOf f c left (setI left x)).length<=900:=by
   cases e:sureP f c (pointsP f (setI left x)) with
   | true=>rw [laysOf_t e,List.length_map]; exact moreL_len hs hl hp (by omega)
   | false=>rw [laysOf_f e]; exact Nat.zero_le _
  omega
theorem laysC_mem:∀ {m:Nat} {left:List Int} {l:List (List Int)},l ∈ laysC f m left->l.length=m:=by
  intro m
  induction m with
  | zero => intro left l h; have : l = [] := by simpa [laysC] using h
            rw [this]; rfl
  | succ m ih =>
    intro left l h
    rw [laysC] at h
    obtain ⟨s,_,h⟩:=List.mem_flatMap.1 h
    split at h
    · obtain ⟨t,ht,rfl⟩:=List.mem_map.1 h
      rw [List.length_cons,ih ht]
    · cases h
theorem moreL_at (hs:Sound f) {c x k:Nat} (h:k < (moreL f c left x).length):((moreL f c left x).getD k []).length<=3:=by
 have hc:=hs.columns
 have:=laysC_mem (getD_mem (moreL f c left x) [] h)
 omega
theorem laysIn_succ {c x k:Nat} (h:k < (moreL f c left x).length):laysIn f c left x (k + 1)=laysIn f c left x k ++ [setI left x :: (moreL f c left x).getD k []]:=by
 unfold laysIn; rw [take_succ _ [] h,List.map_append,← List.append_assoc]; rfl
theorem laysIn_zero (c x:Nat):laysIn f c left x 0=laysTo f c left x:=by unfold laysIn; simp
theorem laysIn_end {c x k:Nat} (hx:x < (setsP left).length) (h:(moreL f c left x).length<=k) (hs:sureP f c (pointsP f (setI left x))=true):laysIn f c left x k=laysTo f c left (x + 1):=by
 unfold laysIn; rw [List.take_of_length_le h,laysTo_succ hx,laysOf_t hs]
theorem laysIn_len (hs:Sound f) (hl:GoodLeft f left) (hp:prodL left<=30) {c x:Nat} (hx:x < prodL left) (k:Nat):(laysIn f c left x k).length<=27900:=by
 unfold laysIn
 rw [List.length_append,List.length_map,List.length_take]
 have h1:=laysTo_len hs hl hp c x (by omega)
 have h2:=moreL_len hs hl hp (c:=c) hx
 omega
theorem restQ_self (left s:List Int) (k:Nat):restQ left s k k=left.getD k 0:=by unfold restQ; rw [if_neg (Nat.lt_irrefl _)]
theorem restQ_end {s:List Int} {q:Nat} (h:q < left.length):restQ left s left.length q=(restL left s).getD q 0:=by unfold restQ; rw [if_pos h,restL_get h]
theorem fm_val:∀ {ls:List (List (List Int))} {x:List (List Int) × Int},fmL ls=some x->x.1 ∈ ls/\x.2=manyL x.1:=by
 intro ls
 induction ls using snoc_ind with
 | h0=>intro x h; cases h
 | h1 ls y ih =>
  intro x h
  rw [fm_snoc] at h
  unfold fmS at h
  split at h
  ·cases h; exact ⟨by simp,rfl⟩
  ·obtain ⟨h1,h2⟩:=ih h; exact ⟨List.mem_append_left _ h1,h2⟩
theorem best_mem {ls:List (List (List Int))} {x:Nat} (h:0 < ls.length):bestTo ls x ∈ ls:=by
 unfold bestTo
 split
 ·exact getD_mem _ _ h
 ·cases e:fmL (ls.take x) with
  | none =>
   have:=fm_none e
   have h2:(ls.take x).length=0:=by rw [this]; rfl
   rw [List.length_take] at h2
   omega
  | some y=>exact List.mem_of_mem_take (fm_val e).1
theorem best_at {ls:List (List (List Int))} {x:Nat} (h:x < ls.length) (hx:0 < x):fmL (ls.take x)=some (bestTo ls x,manyL (bestTo ls x)):=by
 unfold bestTo
 rw [if_neg (by omega)]
 cases e:fmL (ls.take x) with
 | none =>
  have:=fm_none e
  have h2:(ls.take x).length=0:=by rw [this]; rfl
  rw [List.length_take] at h2
  omega
 | some y =>
  have:=(fm_val e).2
  show some y=some (y.1,manyL y.1)
  rw [← this]
theorem bestTo_new {ls:List (List (List Int))} {x:Nat} (h:x < ls.length) (hb:manyL (ls.getD x []) < manyL (bestTo ls x)):bestTo ls (x + 1)=ls.getD x []:=by
 by_cases hx:x=0
 ·subst hx; exact absurd hb (Int.lt_irrefl _)
 ·have e:=best_at h (by omega)
  unfold bestTo
  rw [if_neg (by omega),take_succ _ [] h,fm_snoc,e]
  unfold fmS betterL
  simp only
  rw [if_pos (decide_eq_true hb)]; rfl
theorem bestTo_old {ls:List (List (List Int))} {x:Nat} (h:x < ls.length) (hb:¬ manyL (ls.getD x []) < manyL (bestTo ls x)):bestTo ls (x + 1)=bestTo ls x:=by
 by_cases hx:x=0
 ·subst hx
  show layS (fmL (ls.take (0 + 1)))=ls.getD 0 []
  rw [take_succ _ [] h]; rfl
 ·have e:=best_at h (by omega)
  have e2:bestTo ls (x + 1)=layS (fmL (ls.take (x + 1))):=by unfold bestTo; rw [if_neg (by omega)]
  rw [e2,take_succ _ [] h,fm_snoc,e]
  unfold fmS betterL
  simp only
  rw [if_neg (by rw [decide_eq_false hb]; exact Bool.false_ne_true)]; rfl
theorem best_end {ls:List (List (List Int))} (h:0 < ls.length):bestTo ls ls.length=layS (fmL ls):=by
 unfold bestTo; rw [if_neg (by omega),List.take_of_length_le (Nat.le_refl _)]
theorem used_ge:∀ {l:List (List Int)} {q i:Nat},(∀ i,i < l.length->0<=(l.getD i []).getD q 0)->i < l.length->(l.getD i []).getD q 0<=usedL l q:=by
 intro l
 induction l with
 | nil=>intro q i _ hi; exact absurd hi (Nat.not_lt_zero _)
 | cons s l ih =>
  intro q i h hi
  have h0:0<=s.getD q 0:=h 0 (Nat.succ_pos _)
  have h1:∀ i,i < l.length->0<=(l.getD i []).getD q 0:=fun i hi=>h (i + 1) (Nat.succ_lt_succ hi)
  have h2:=usedL_pos h1
  cases i with
  | zero=>show s.getD q 0<=s.getD q 0 + usedL l q; omega
  | succ i =>
   have:=ih h1 (Nat.lt_of_succ_lt_succ hi)
   show (l.getD i []).getD q 0<=s.getD q 0 + usedL l q
   omega
theorem okLay_of (hs:Sound f) {w:Int} {l:List (List Int)} (h:LayF f w l):okLay l:=by
 obtain ⟨h1,h2,h3⟩:=(layF_iff hs).1 h
 have hc:=hs.columns
 have hst:=hs.strips
 refine ⟨by omega,fun i => ?_⟩
 by_cases hi:i < f.columns.length
 ·obtain ⟨a,b,_⟩:=h2 i hi
  refine ⟨by omega,fun q => ?_⟩
  by_cases hq:q < f.strips.length
  ·have g1:=b q hq
   have g2:=used_ge (l:=l) (q:=q) (i:=i) (fun j hj=>(h2 j (by omega)).2.1 q hq) (by omega)
   have g3:=h3 q hq
   have g4:=hs.strip q hq
   omega
  ·rw [getD_ge (l.getD i []) _ (by omega)]; exact ⟨by decide,by decide⟩
 ·rw [getD_ge l _ (by omega)]
  exact ⟨Nat.zero_le _,fun q=>⟨by simp,by simp⟩⟩
theorem laysA_ok (hs:Sound f) {l:List (List Int)} (h:l ∈ laysA f):okLay l:=by
 unfold laysA at h
 rw [laysC_all hs] at h
 exact okLay_of hs (w:=0) (mem_laysR.1 h)
theorem laysA_whole (hs:Sound f):wholeP f 0=fmL (laysA f):=whole_lays hs
theorem prodL_snoc (l:List Int) (a:Int):prodL (l ++ [a])=prodL l * (a.toNat + 1):=by
 induction l with
 | nil=>show (a.toNat + 1) * 1=1 * (a.toNat + 1); omega
 | cons x l ih=>show (x.toNat + 1) * prodL (l ++ [a])=(x.toNat + 1) * prodL l * (a.toNat + 1); rw [ih,Nat.mul_assoc]
theorem prod_stock (hs:Sound f):∀ n,n<=f.strips.length->((prodL (stockTo f n):Nat):Int)=prodF f n:=by
 intro n
 induction n with
 | zero=>intro _; rfl
 | succ n ih =>
  intro h
  rw [stock_succ,prodL_snoc,prod_succ,← ih (by omega)]
  have:=hs.strip n (by omega)
  have e:(((stp f n).many.toNat:Nat):Int)=(stp f n).many:=by omega
  rw [Int.natCast_mul,Int.natCast_add,e]; rfl
end Go.Sh
namespace Go.En
open Go Go.Ab Go.Sh
def aLays (l:List (List (List Int))):AV := .sl 1 l.length (fun i=>[aIntss (l.getD i [])])
end Go.En
namespace Go.Ab
open Go Go.RowKit Go.Proofs Go.Sh Go.En
abbrev rowS (l:List (List Int)):OB := .vec 27 1 l.length (fun i=>[aInts (l.getD i [])])
abbrev rowL (l:List (List (List Int))):OB := .vec 24 1 l.length (fun i=>[aIntss (l.getD i [])])
def s134 (left first:List Int):CallSpec:={ args:=[aInts left,aInts first],res:=aIntss (setsFrom left first),pre:=first.length<=left.length/\left.length<=3 /\ ∀ q,q < left.length->0<=left.getD q 0/\left.getD q 0<=4 }
def h134 (left first:List Int):Hint:={ X:=Nat,M:=fun n=>[(5,.vec 5000),(6,iv n)],H:=fun n=>[(5000,rowS (setsTo left first n))],I:=fun n=>n<=(left.getD first.length 0).toNat + 1,mu:=fun n=>(left.getD first.length 0).toNat + 1 - n,x0:=(0:Nat),nx:=fun n=>n + 1 }
def c134 (left first:List Int) (n:Nat):CallSpec:=s134 left (first ++ [(n:Int)])
def s105 (f:Frm) (c:Nat) (left:List Int):CallSpec:={ args:=[vFrm f,iv c,aInts left],res:=aLays (laysC f (f.columns.length - c) left),pre:=Sound f/\c<=f.columns.length/\GoodLeft f left/\prodL left<=30 }
def h105a (f:Frm) (c:Nat) (left:List Int):Hint:={ X:=Nat,M:=fun i=>[(7,.vec 5000),(9,iv i)],H:=fun i=>[(5000,rowL (laysTo f c left i))],I:=fun i=>i<=(setsP left).length,mu:=fun i=>(setsP left).length - i,x0:=(0:Nat),nx:=fun i=>i + 1 }
def h105b (f:Frm) (c:Nat) (left:List Int) (x:Nat):Hint:={ X:=Nat,M:=fun k=>[(10,.vec 5001),(11,iv k)],H:=fun k=>[(5001,.vec 3 1 left.length (fun q=>[iv (restQ left (setI left x) k q)]))],I:=fun k=>k<=left.length,mu:=fun k=>left.length - k,x0:=(0:Nat),nx:=fun k=>k + 1 }
def h105c (f:Frm) (c:Nat) (left:List Int) (x:Nat):Hint:={ X:=Nat,M:=fun k=>[(7,.vec 5002),(13,iv k)],H:=fun k=>[(5002,rowL (laysIn f c left x k))],I:=fun k=>k<=(moreL f c left x).length,mu:=fun k=>(moreL f c left x).length - k,x0:=(0:Nat),nx:=fun k=>k + 1 }
def c105z:CallSpec:={ args:=[aIntss []],res := .any }
def c105s (f:Frm) (c:Nat) (left:List Int):CallSpec:=s134 left []
def c105p (f:Frm) (c:Nat) (left:List Int) (x:Nat):CallSpec:=s23 f (setI left x)
def c105r (f:Frm) (c:Nat) (left:List Int) (x:Nat):CallSpec:=s105 f (c + 1) (restL left (setI left x))
def s78 (f:Frm):CallSpec:={ args:=[vFrm f],res := .tup [aIntss (lockR f),iv (stripsE f)],pre:=fitsF f/\(okFrm f=true->prodF f f.strips.length<=30) }
def h78 (f:Frm):Hint:={ X:=Nat,M:=fun i=>[(6,aIntss (bestTo (laysA f) i)),(7,iv i)],I:=fun i=>i<=(laysA f).length,mu:=fun i=>(laysA f).length - i,x0:=(0:Nat),nx:=fun i=>i + 1 }
def c78 (f:Frm):CallSpec:=s105 f 0 (stockTo f f.strips.length)
def c78a (f:Frm) (x:Nat):CallSpec:=s61 ((laysA f).getD x [])
def c78b (f:Frm) (x:Nat):CallSpec:=s61 (bestTo (laysA f) x)
def s122 (f:Frm):CallSpec:={ args:=[vFrm f],res:=bv (decide (stripsE f=0)),pre:=fitsF f/\(okFrm f=true->prodF f f.strips.length<=30) }
end Go.Ab
