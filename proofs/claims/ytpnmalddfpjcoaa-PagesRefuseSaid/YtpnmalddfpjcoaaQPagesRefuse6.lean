/- PagesRefuse returns true for every input, and leaves what it was handed as it was. No condition. -/
import Derived.Test.YtpnmalddfpjcoaaQPagesRefuse5
import Derived.Deep.Slices
import Derived.ChangeShapes
import Derived.Carry
import Derived.OpenShut
import Derived.SizedLaws
import Derived.Test.YtpnmalddfpjcoaaRows
import Derived.ProofKit
import Derived.JoinedOf
set_option linter.all false
set_option linter.deprecated false
namespace Go.Ab
open Go Go.RowKit Go.Proofs Go.Sh Go.En
theorem w106 (f:Frm) (out:List Int)
  (o0:smallF f/\List.length out <= big->0=(↑0:Int))
  (o1:smallF f/\List.length out <= big -> ∀ (i2:Nat),i2 < f.columns.length->i2 ≠ 0 -> [aInts (col f i2)] = [aInts (outC f out 0 i2)])
  (o2:smallF f/\List.length out <= big->0<=f.columns.length)
  (o3:smallF f/\List.length out <= big -> ∀ (x1:Nat),x1<=f.columns.length->decide ((x1:Int) < (↑(f.columns.length):Int))=true->0<=(x1:Int))
  (o4:smallF f/\List.length out <= big -> ∀ (x1:Nat),x1<=f.columns.length->decide ((x1:Int) < (↑(f.columns.length):Int))=true->(x1:Int) < (↑(f.columns.length):Int))
  (o5:smallF f/\List.length out <= big -> ∀ (x1:Nat),x1<=f.columns.length->decide ((x1:Int) < (↑(f.columns.length):Int))=true->x1 < f.columns.length)
  (o6:smallF f/\List.length out <= big -> ∀ (x1:Nat),x1<=f.columns.length->decide ((x1:Int) < (↑(f.columns.length):Int))=true->0=(↑0:Int))
  (o7:smallF f/\List.length out <= big -> ∀ (x1:Nat),x1<=f.columns.length->decide ((x1:Int) < (↑(f.columns.length):Int))=true->(keptW (col f x1) (isIn out) 0).length=0)
  (o8:smallF f/\List.length out <= big -> ∀ (x1:Nat),x1<=f.columns.length->decide ((x1:Int) < (↑(f.columns.length):Int))=true->0<=(col f x1).length)
  (o9:smallF f/\List.length out <= big -> ∀ (x1:Nat),x1<=f.columns.length->decide ((x1:Int) < (↑(f.columns.length):Int))=true -> ∀ (x8:Nat),x8<=(col f x1).length->0<=(x1:Int))
  (o10:smallF f/\List.length out <= big -> ∀ (x1:Nat),x1<=f.columns.length->decide ((x1:Int) < (↑(f.columns.length):Int))=true -> ∀ (x8:Nat),x8<=(col f x1).length->(x1:Int) < (↑(f.columns.length):Int))
  (o11:smallF f/\List.length out <= big -> ∀ (x1:Nat),x1<=f.columns.length->decide ((x1:Int) < (↑(f.columns.length):Int))=true -> ∀ (x8:Nat),x8<=(col f x1).length->decide ((x8:Int) < (↑((col f x1).length):Int))=true->0<=(x1:Int))
  (o12:smallF f/\List.length out <= big -> ∀ (x1:Nat),x1<=f.columns.length->decide ((x1:Int) < (↑(f.columns.length):Int))=true -> ∀ (x8:Nat),x8<=(col f x1).length->decide ((x8:Int) < (↑((col f x1).length):Int))=true->(x1:Int) < (↑(f.columns.length):Int))
  (o13:smallF f/\List.length out <= big -> ∀ (x1:Nat),x1<=f.columns.length->decide ((x1:Int) < (↑(f.columns.length):Int))=true -> ∀ (x8:Nat),x8<=(col f x1).length->decide ((x8:Int) < (↑((col f x1).length):Int))=true->0<=(x8:Int))
  (o14:smallF f/\List.length out <= big -> ∀ (x1:Nat),x1<=f.columns.length->decide ((x1:Int) < (↑(f.columns.length):Int))=true -> ∀ (x8:Nat),x8<=(col f x1).length->decide ((x8:Int) < (↑((col f x1).length):Int))=true->(x8:Int) < (↑((col f x1).length):Int))
  (o15:smallF f/\List.length out <= big -> ∀ (x1:Nat),x1<=f.columns.length->decide ((x1:Int) < (↑(f.columns.length):Int))=true -> ∀ (x8:Nat),x8<=(col f x1).length->decide ((x8:Int) < (↑((col f x1).length):Int))=true->(!isIn out ((col f x1).getD x8 0))=true->0<=(x1:Int))
  (o16:smallF f/\List.length out <= big -> ∀ (x1:Nat),x1<=f.columns.length->decide ((x1:Int) < (↑(f.columns.length):Int))=true -> ∀ (x8:Nat),x8<=(col f x1).length->decide ((x8:Int) < (↑((col f x1).length):Int))=true->(!isIn out ((col f x1).getD x8 0))=true->(x1:Int) < (↑(f.columns.length):Int))
  (o17:smallF f/\List.length out <= big -> ∀ (x1:Nat),x1<=f.columns.length->decide ((x1:Int) < (↑(f.columns.length):Int))=true -> ∀ (x8:Nat),x8<=(col f x1).length->decide ((x8:Int) < (↑((col f x1).length):Int))=true->(!isIn out ((col f x1).getD x8 0))=true->x1 < f.columns.length)
  (o18:smallF f/\List.length out <= big -> ∀ (x1:Nat),x1<=f.columns.length->decide ((x1:Int) < (↑(f.columns.length):Int))=true -> ∀ (x8:Nat),x8<=(col f x1).length->decide ((x8:Int) < (↑((col f x1).length):Int))=true->(!isIn out ((col f x1).getD x8 0))=true->0<=(x1:Int))
  (o19:smallF f/\List.length out <= big -> ∀ (x1:Nat),x1<=f.columns.length->decide ((x1:Int) < (↑(f.columns.length):Int))=true -> ∀ (x8:Nat),x8<=(col f x1).length->decide ((x8:Int) < (↑((col f x1).length):Int))=true->(!isIn out ((col f x1).getD x8 0))=true->(x1:Int) < (↑(f.columns.length):Int))
  (o20:smallF f/\List.length out <= big -> ∀ (x1:Nat),x1<=f.columns.length->decide ((x1:Int) < (↑(f.columns.length):Int))=true -> ∀ (x8:Nat),x8<=(col f x1).length->decide ((x8:Int) < (↑((col f x1).length):Int))=true->(!isIn out ((col f x1).getD x8 0))=true->0<=(x8:Int))
  (o21:smallF f/\List.length out <= big -> ∀ (x1:Nat),x1<=f.columns.length->decide ((x1:Int) < (↑(f.columns.length):Int))=true -> ∀ (x8:Nat),x8<=(col f x1).length->decide ((x8:Int) < (↑((col f x1).length):Int))=true->(!isIn out ((col f x1).getD x8 0))=true->(x8:Int) < (↑((col f x1).length):Int))
  (o22:smallF f/\List.length out <= big -> ∀ (x1:Nat),x1<=f.columns.length->decide ((x1:Int) < (↑(f.columns.length):Int))=true -> ∀ (x8:Nat),x8<=(col f x1).length->decide ((x8:Int) < (↑((col f x1).length):Int))=true->(!isIn out ((col f x1).getD x8 0))=true->(keptW (col f x1) (isIn out) x8).length + 1<=65536)
  (o23:smallF f/\List.length out <= big -> ∀ (x1:Nat),x1<=f.columns.length->decide ((x1:Int) < (↑(f.columns.length):Int))=true -> ∀ (x8:Nat),x8<=(col f x1).length->decide ((x8:Int) < (↑((col f x1).length):Int))=true->(!isIn out ((col f x1).getD x8 0))=true->0<=(x1:Int))
  (o24:smallF f/\List.length out <= big -> ∀ (x1:Nat),x1<=f.columns.length->decide ((x1:Int) < (↑(f.columns.length):Int))=true -> ∀ (x8:Nat),x8<=(col f x1).length->decide ((x8:Int) < (↑((col f x1).length):Int))=true->(!isIn out ((col f x1).getD x8 0))=true->(x1:Int) < (↑(f.columns.length):Int))
  (o25:smallF f/\List.length out <= big -> ∀ (x1:Nat),x1<=f.columns.length->decide ((x1:Int) < (↑(f.columns.length):Int))=true -> ∀ (x8:Nat),x8<=(col f x1).length->decide ((x8:Int) < (↑((col f x1).length):Int))=true->(!isIn out ((col f x1).getD x8 0))=true->x1 < f.columns.length)
  (o26:smallF f/\List.length out <= big -> ∀ (x1:Nat),x1<=f.columns.length->decide ((x1:Int) < (↑(f.columns.length):Int))=true -> ∀ (x8:Nat),x8<=(col f x1).length->decide ((x8:Int) < (↑((col f x1).length):Int))=true->(!isIn out ((col f x1).getD x8 0))=true->inI ((x8:Int) + 1))
  (o27:smallF f/\List.length out <= big -> ∀ (x1:Nat),x1<=f.columns.length->decide ((x1:Int) < (↑(f.columns.length):Int))=true -> ∀ (x8:Nat),x8<=(col f x1).length->decide ((x8:Int) < (↑((col f x1).length):Int))=true->(!isIn out ((col f x1).getD x8 0))=true->(x8:Int) + 1=(↑(x8 + 1):Int))
  (o28:smallF f/\List.length out <= big -> ∀ (x1:Nat),x1<=f.columns.length->decide ((x1:Int) < (↑(f.columns.length):Int))=true -> ∀ (x8:Nat),x8<=(col f x1).length->decide ((x8:Int) < (↑((col f x1).length):Int))=true->(!isIn out ((col f x1).getD x8 0))=true->(keptW (col f x1) (isIn out) x8).length + 1=(keptW (col f x1) (isIn out) (x8 + 1)).length)
  (o29:smallF f/\List.length out <= big -> ∀ (x1:Nat),x1<=f.columns.length->decide ((x1:Int) < (↑(f.columns.length):Int))=true -> ∀ (x8:Nat),x8<=(col f x1).length->decide ((x8:Int) < (↑((col f x1).length):Int))=true->(!isIn out ((col f x1).getD x8 0))=true -> ∀ (i18:Nat),i18 < (keptW (col f x1) (isIn out) x8).length + 1->catF (keptW (col f x1) (isIn out) x8).length (fun (p:Nat)=>[iv ((keptW (col f x1) (isIn out) x8).getD p 0)]) (fun (j:Nat)=>List.getD [[iv ((col f x1).getD x8 0)]] j (TI.za ti3)) i18 = [iv ((keptW (col f x1) (isIn out) (x8 + 1)).getD i18 0)])
  (o30:smallF f/\List.length out <= big -> ∀ (x1:Nat),x1<=f.columns.length->decide ((x1:Int) < (↑(f.columns.length):Int))=true -> ∀ (x8:Nat),x8<=(col f x1).length->decide ((x8:Int) < (↑((col f x1).length):Int))=true->(!isIn out ((col f x1).getD x8 0))=true->x8 + 1<=(col f x1).length)
  (o31:smallF f/\List.length out <= big -> ∀ (x1:Nat),x1<=f.columns.length->decide ((x1:Int) < (↑(f.columns.length):Int))=true -> ∀ (x8:Nat),x8<=(col f x1).length->decide ((x8:Int) < (↑((col f x1).length):Int))=true->(!isIn out ((col f x1).getD x8 0))=true->(col f x1).length - (x8 + 1) < (col f x1).length - x8)
  (o32:smallF f/\List.length out <= big -> ∀ (x1:Nat),x1<=f.columns.length->decide ((x1:Int) < (↑(f.columns.length):Int))=true -> ∀ (x8:Nat),x8<=(col f x1).length->decide ((x8:Int) < (↑((col f x1).length):Int))=true->(!isIn out ((col f x1).getD x8 0))=false->inI ((x8:Int) + 1))
  (o33:smallF f/\List.length out <= big -> ∀ (x1:Nat),x1<=f.columns.length->decide ((x1:Int) < (↑(f.columns.length):Int))=true -> ∀ (x8:Nat),x8<=(col f x1).length->decide ((x8:Int) < (↑((col f x1).length):Int))=true->(!isIn out ((col f x1).getD x8 0))=false->(x8:Int) + 1=(↑(x8 + 1):Int))
  (o34:smallF f/\List.length out <= big -> ∀ (x1:Nat),x1<=f.columns.length->decide ((x1:Int) < (↑(f.columns.length):Int))=true -> ∀ (x8:Nat),x8<=(col f x1).length->decide ((x8:Int) < (↑((col f x1).length):Int))=true->(!isIn out ((col f x1).getD x8 0))=false->(keptW (col f x1) (isIn out) x8).length=(keptW (col f x1) (isIn out) (x8 + 1)).length)
  (o35:smallF f/\List.length out <= big -> ∀ (x1:Nat),x1<=f.columns.length->decide ((x1:Int) < (↑(f.columns.length):Int))=true -> ∀ (x8:Nat),x8<=(col f x1).length->decide ((x8:Int) < (↑((col f x1).length):Int))=true->(!isIn out ((col f x1).getD x8 0))=false -> ∀ (i23:Nat),i23 < (keptW (col f x1) (isIn out) x8).length -> [iv ((keptW (col f x1) (isIn out) x8).getD i23 0)] = [iv ((keptW (col f x1) (isIn out) (x8 + 1)).getD i23 0)])
  (o36:smallF f/\List.length out <= big -> ∀ (x1:Nat),x1<=f.columns.length->decide ((x1:Int) < (↑(f.columns.length):Int))=true -> ∀ (x8:Nat),x8<=(col f x1).length->decide ((x8:Int) < (↑((col f x1).length):Int))=true->(!isIn out ((col f x1).getD x8 0))=false->x8 + 1<=(col f x1).length)
  (o37:smallF f/\List.length out <= big -> ∀ (x1:Nat),x1<=f.columns.length->decide ((x1:Int) < (↑(f.columns.length):Int))=true -> ∀ (x8:Nat),x8<=(col f x1).length->decide ((x8:Int) < (↑((col f x1).length):Int))=true->(!isIn out ((col f x1).getD x8 0))=false->(col f x1).length - (x8 + 1) < (col f x1).length - x8)
  (o38:smallF f/\List.length out <= big -> ∀ (x1:Nat),x1<=f.columns.length->decide ((x1:Int) < (↑(f.columns.length):Int))=true -> ∀ (x8:Nat),x8<=(col f x1).length->decide ((x8:Int) < (↑((col f x1).length):Int))=false -> ∀ (i25:Nat),i25 < f.columns.length->i25 ≠ x1 -> [aInts (outC f out x1 i25)] = [aInts (outC f out (x1 + 1) i25)])
  (o39:smallF f/\List.length out <= big -> ∀ (x1:Nat),x1<=f.columns.length->decide ((x1:Int) < (↑(f.columns.length):Int))=true -> ∀ (x8:Nat),x8<=(col f x1).length->decide ((x8:Int) < (↑((col f x1).length):Int))=false->(keptW (col f x1) (isIn out) x8).length=(outC f out (x1 + 1) x1).length)
  (o40:smallF f/\List.length out <= big -> ∀ (x1:Nat),x1<=f.columns.length->decide ((x1:Int) < (↑(f.columns.length):Int))=true -> ∀ (x8:Nat),x8<=(col f x1).length->decide ((x8:Int) < (↑((col f x1).length):Int))=false -> ∀ (i28:Nat),i28 < (outC f out (x1 + 1) x1).length -> [iv ((keptW (col f x1) (isIn out) x8).getD i28 0)] = [iv ((outC f out (x1 + 1) x1).getD i28 0)])
  (o41:smallF f/\List.length out <= big -> ∀ (x1:Nat),x1<=f.columns.length->decide ((x1:Int) < (↑(f.columns.length):Int))=true -> ∀ (x8:Nat),x8<=(col f x1).length->decide ((x8:Int) < (↑((col f x1).length):Int))=false->inI ((x1:Int) + 1))
  (o42:smallF f/\List.length out <= big -> ∀ (x1:Nat),x1<=f.columns.length->decide ((x1:Int) < (↑(f.columns.length):Int))=true -> ∀ (x8:Nat),x8<=(col f x1).length->decide ((x8:Int) < (↑((col f x1).length):Int))=false->(x1:Int) + 1=(↑(x1 + 1):Int))
  (o43:smallF f/\List.length out <= big -> ∀ (x1:Nat),x1<=f.columns.length->decide ((x1:Int) < (↑(f.columns.length):Int))=true -> ∀ (x8:Nat),x8<=(col f x1).length->decide ((x8:Int) < (↑((col f x1).length):Int))=false->(outC f out (x1 + 1) (x1 + 1)).length=(col f (x1 + 1)).length)
  (o44:smallF f/\List.length out <= big -> ∀ (x1:Nat),x1<=f.columns.length->decide ((x1:Int) < (↑(f.columns.length):Int))=true -> ∀ (x8:Nat),x8<=(col f x1).length->decide ((x8:Int) < (↑((col f x1).length):Int))=false -> ∀ (i33:Nat),i33 < (col f (x1 + 1)).length -> [iv ((outC f out (x1 + 1) (x1 + 1)).getD i33 0)] = [iv ((col f (x1 + 1)).getD i33 0)])
  (o45:smallF f/\List.length out <= big -> ∀ (x1:Nat),x1<=f.columns.length->decide ((x1:Int) < (↑(f.columns.length):Int))=true -> ∀ (x8:Nat),x8<=(col f x1).length->decide ((x8:Int) < (↑((col f x1).length):Int))=false->x1 + 1<=f.columns.length)
  (o46:smallF f/\List.length out <= big -> ∀ (x1:Nat),x1<=f.columns.length->decide ((x1:Int) < (↑(f.columns.length):Int))=true -> ∀ (x8:Nat),x8<=(col f x1).length->decide ((x8:Int) < (↑((col f x1).length):Int))=false->f.columns.length - (x1 + 1) < f.columns.length - x1)
  (o47:smallF f/\List.length out <= big -> ∀ (x1:Nat),x1<=f.columns.length->decide ((x1:Int) < (↑(f.columns.length):Int))=false -> ∀ (i35:Nat),i35 < f.columns.length->i35 ≠ x1 -> [aInts (outC f out x1 i35)] = [aInts (col (withoutF f out) i35)])
  (o48:smallF f/\List.length out <= big -> ∀ (x1:Nat),x1<=f.columns.length->decide ((x1:Int) < (↑(f.columns.length):Int))=false->(col f x1).length=(col (withoutF f out) x1).length)
  (o49:smallF f/\List.length out <= big -> ∀ (x1:Nat),x1<=f.columns.length->decide ((x1:Int) < (↑(f.columns.length):Int))=false -> ∀ (i38:Nat),i38 < (col (withoutF f out) x1).length -> [iv ((col f x1).getD i38 0)] = [iv ((col (withoutF f out) x1).getD i38 0)])
  (o50:smallF f/\List.length out <= big -> ∀ (x1:Nat),x1<=f.columns.length->decide ((x1:Int) < (↑(f.columns.length):Int))=false->f.length=(withoutF f out).length)
  (o51:smallF f/\List.length out <= big -> ∀ (x1:Nat),x1<=f.columns.length->decide ((x1:Int) < (↑(f.columns.length):Int))=false->f.slack=(withoutF f out).slack)
  (o52:smallF f/\List.length out <= big -> ∀ (x1:Nat),x1<=f.columns.length->decide ((x1:Int) < (↑(f.columns.length):Int))=false->f.strips.length=(withoutF f out).strips.length)
  (o53:smallF f/\List.length out <= big -> ∀ (x1:Nat),x1<=f.columns.length->decide ((x1:Int) < (↑(f.columns.length):Int))=false -> ∀ (i40:Nat),i40 < (withoutF f out).strips.length->cStrip (stp f i40)=cStrip (stp (withoutF f out) i40))
  (o54:smallF f/\List.length out <= big -> ∀ (x1:Nat),x1<=f.columns.length->decide ((x1:Int) < (↑(f.columns.length):Int))=false->f.pieces.length=(withoutF f out).pieces.length)
  (o55:smallF f/\List.length out <= big -> ∀ (x1:Nat),x1<=f.columns.length->decide ((x1:Int) < (↑(f.columns.length):Int))=false -> ∀ (i42:Nat),i42 < (withoutF f out).pieces.length->cPiece (pc f i42)=cPiece (pc (withoutF f out) i42))
  (o56:smallF f/\List.length out <= big -> ∀ (x1:Nat),x1<=f.columns.length->decide ((x1:Int) < (↑(f.columns.length):Int))=false->f.columns.length=(withoutF f out).columns.length) :
  Triple Try.prog 106 (s106 f out):=by
 refine triple_of Try.func106 rfl Try.call106 T0_ok _ rfl rfl rfl rfl (Nat.le_of_ble_eq_true (by kernel_rfl)) (fun _ _ _ _ h=>h) ?_
 intro hpre C hC _ hE
 obtain ⟨P,w0,E0,av,hA,ro,df⟩:=C
 obtain ⟨rfl,rfl,rfl⟩:=hC
 refine swp_seq ?_
 refine zR [1,2,4] [0,8] (Ak 2 tv) ?_
 refine swp_seq ?_
 refine zC ([(1,CallSpec.eq (c106 f out 24) [true])]) [1,2,4,5] [0,8,32,24,25,26] (Ak 1 (An (An (An (zr (AV.agg (cFrm f))) tv) (An (t31o (f) (24)) (An hpre.1 (Ak 1 (fun (i0:Env)=>tv))))) (Ak 2 tv))) ?_
 refine swp_seq ?_
 refine swp_seq ?_
 refine zR [1,2,4,5,6] [0,8,32,24,25,26] (Ak 1 tv) ?_
 refine swp_block ?_
 refine zL (Hint.ann (h106a f out) [(1,aInts out),(2,AV.ptr 0 []),(4,AV.ptr 8 []),(5,AV.ptr 32 [])] [(0,OB.cells 26 (cFrm f)),(8,OB.cells 26 [iv 0,iv 0,nilv,nilv,nilv]),(32,OB.cells 26 [iv f.length,iv f.slack,AV.vec 24,AV.vec 25,AV.vec 26]),(24,OB.vec 65 2 f.strips.length fun (i:Nat)=>cStrip (stp f i)),(25,OB.vec 46 3 f.pieces.length fun (i:Nat)=>cPiece (pc f i))] 10056) (zE hE [] [(0,.same 0),(8,.same 8),(32,.same 32),(24,.same 24),(25,.same 25),(26,.same 26)] [1] [0,8,24,25] (An (An (An (zr (aInts out)) (zr true)) (An (An (zr (some (Src.same 0))) (zr nilP)) (An (An (zr (some (Src.same 8))) (zr nilP)) (An (An (zr (some (Src.same 32))) (zr nilP)) (An (An (ci (o0 hpre)) (zr nilN)) tv))))) (An (An (An (zr (OB.cells 26 (cFrm f))) (zr true)) (An (An (zr (OB.cells 26 [iv 0,iv 0,nilv,nilv,nilv])) (zr true)) (An (An (zr 26) (An (An (An (zr (iv f.length)) (zr nilN)) (An (An (zr (iv f.slack)) (zr nilN)) (An (zr (some (Src.same 24))) (An (zr (some (Src.same 25))) (An (zr (some (Src.same 26))) tv))))) (zr true))) (An (An (zr (OB.vec 65 2 f.strips.length fun (i:Nat)=>cStrip (stp f i))) (zr true)) (An (An (zr (OB.vec 46 3 f.pieces.length fun (i:Nat)=>cPiece (pc f i))) (zr true)) (An (An (zr 27) (An (zr 1) (An (zr f.columns.length) (An (fun (i2:Nat)=>(fun (y3:i2 < f.columns.length)=>(fun (y4:i2 ≠ 0)=>(o1 hpre i2 y3 y4)))) (An (An (An (zr 1) (An (zr (col f 0).length) (fun (i5:Nat)=>(fun (y6:i5 < (col f 0).length)=>(zr ([iv ((col f 0).getD i5 0)])))))) tv) (zr true)))))) tv)))))) (An (zr true) (zr true))))) (o2 hpre) (fun (x1:Nat) hx1 => ?_)
 refine swp_seq ?_
 refine swp_seq ?_
 refine zR [1,2,4,5,6,14] [0,8,32,24,25,26] (Ak 5 tv) ?_
 refine zI (decide ((x1:Int) < (↑(f.columns.length):Int))) (fun y7 => ?_) (fun y7 => ?_)
 ·refine swp_skip ?_
  refine swp_seq ?_
  refine swp_block ?_
  refine swp_seq ?_
  refine zR [1,2,4,5,6] [0,8,32,24,25,26] (Ak 3 (An (An (o3 hpre x1 hx1 y7) (o4 hpre x1 hx1 y7)) (An (An (zr x1) (An (o5 hpre x1 hx1 y7) tv)) tv))) ?_
  refine swp_seq ?_
  refine zR [1,2,4,5,6,7] [0,8,32,24,25,26] (Ak 1 tv) ?_
  refine swp_block ?_
  refine zL (Hint.ann (h106b f out x1) [(1,aInts out),(2,AV.ptr 0 []),(4,AV.ptr 8 []),(5,AV.ptr 32 []),(6,iv (x1:Int))] [(0,OB.cells 26 (cFrm f)),(8,OB.cells 26 [iv 0,iv 0,nilv,nilv,nilv]),(32,OB.cells 26 [iv f.length,iv f.slack,AV.vec 24,AV.vec 25,AV.vec 26]),(24,OB.vec 65 2 f.strips.length fun (i:Nat)=>cStrip (stp f i)),(25,OB.vec 46 3 f.pieces.length fun (i:Nat)=>cPiece (pc f i))] 20144) (zE hE [] [(0,.same 0),(8,.same 8),(32,.same 32),(24,.same 24),(25,.same 25),(26,.same 26),(5001,.nil)] [1,6] [0,8,24,25] (An (An (An (zr (aInts out)) (zr true)) (An (An (zr (some (Src.same 0))) (zr nilP)) (An (An (zr (some (Src.same 8))) (zr nilP)) (An (An (zr (some (Src.same 32))) (zr nilP)) (An (An (zr (iv (x1:Int))) (zr true)) (An (An (ci (o6 hpre x1 hx1 y7)) (zr nilN)) tv)))))) (An (An (An (zr (OB.cells 26 (cFrm f))) (zr true)) (An (An (zr (OB.cells 26 [iv 0,iv 0,nilv,nilv,nilv])) (zr true)) (An (An (zr 26) (An (An (An (zr (iv f.length)) (zr nilN)) (An (An (zr (iv f.slack)) (zr nilN)) (An (zr (some (Src.same 24))) (An (zr (some (Src.same 25))) (An (zr (some (Src.same 26))) tv))))) (zr true))) (An (An (zr (OB.vec 65 2 f.strips.length fun (i:Nat)=>cStrip (stp f i))) (zr true)) (An (An (zr (OB.vec 46 3 f.pieces.length fun (i:Nat)=>cPiece (pc f i))) (zr true)) (An (An (zr 27) (An (zr 1) (An (zr f.columns.length) (An (zr x1) (An (fun (i9:Nat)=>(fun (y10:i9 < f.columns.length)=>(fun (y11:i9 ≠ x1)=>(zr ([aInts (outC f out x1 i9)]))))) (An (An (zr (some Src.nil)) tv) (zr true))))))) (An (o7 hpre x1 hx1 y7) tv))))))) (An (zr true) (zr true))))) (o8 hpre x1 hx1 y7) (fun (x8:Nat) hx8 => ?_)
  refine swp_seq ?_
  refine swp_seq ?_
  refine zR [1,2,4,5,6,7,28] [0,8,32,24,25,26,5001] (Ak 4 (An (An (o9 hpre x1 hx1 y7 x8 hx8) (o10 hpre x1 hx1 y7 x8 hx8)) (Ak 3 tv))) ?_
  refine zI (decide ((x8:Int) < (↑((col f x1).length):Int))) (fun y12 => ?_) (fun y12 => ?_)
  ·refine swp_skip ?_
   refine swp_seq ?_
   refine swp_block ?_
   refine swp_seq ?_
   refine zC ([(9,CallSpec.eq (s135 out ((col f x1).getD x8 0)) [true,true])]) [1,2,4,5,6,7,41] [0,8,32,24,25,26,5001] (Ak 4 (An (An (o11 hpre x1 hx1 y7 x8 hx8 y12) (o12 hpre x1 hx1 y7 x8 hx8 y12)) (Ak 2 (An (An (o13 hpre x1 hx1 y7 x8 hx8 y12) (o14 hpre x1 hx1 y7 x8 hx8 y12)) (Ak 1 (An (An (An (zr (aInts out)) (An (zr (iv ((col f x1).getD x8 0))) tv)) (An (t135 (out) ((col f x1).getD x8 0)) (An hpre.2 (Ak 1 (fun (i13:Env)=>tv))))) (Ak 1 tv))))))) ?_
   refine zI (!isIn out ((col f x1).getD x8 0)) (fun y14 => ?_) (fun y14 => ?_)
   ·refine zR [1,2,4,5,6,7] [0,8,32,24,25,26,20432] (Ak 6 (An (An (o15 hpre x1 hx1 y7 x8 hx8 y12 y14) (o16 hpre x1 hx1 y7 x8 hx8 y12 y14)) (An (An (zr x1) (An (o17 hpre x1 hx1 y7 x8 hx8 y12 y14) tv)) (Ak 3 (An (An (o18 hpre x1 hx1 y7 x8 hx8 y12 y14) (o19 hpre x1 hx1 y7 x8 hx8 y12 y14)) (Ak 2 (An (An (o20 hpre x1 hx1 y7 x8 hx8 y12 y14) (o21 hpre x1 hx1 y7 x8 hx8 y12 y14)) (Ak 2 (An (o22 hpre x1 hx1 y7 x8 hx8 y12 y14) (An (An (o23 hpre x1 hx1 y7 x8 hx8 y12 y14) (o24 hpre x1 hx1 y7 x8 hx8 y12 y14)) (An (An (zr x1) (An (o25 hpre x1 hx1 y7 x8 hx8 y12 y14) tv)) tv))))))))))) ?_
    refine zR [1,2,4,5,6,7] [0,8,32,24,25,26,20432] (Ak 1 (An (o26 hpre x1 hx1 y7 x8 hx8 y12 y14) (Ak 1 tv))) ?_
    exact zn (zE hE [] [(0,.same 0),(8,.same 8),(32,.same 32),(24,.same 24),(25,.same 25),(26,.same 26),(5001,.same 20432)] [1,6] [0,8,24,25] (An (An (An (zr (aInts out)) (zr true)) (An (An (zr (some (Src.same 0))) (zr nilP)) (An (An (zr (some (Src.same 8))) (zr nilP)) (An (An (zr (some (Src.same 32))) (zr nilP)) (An (An (zr (iv (x1:Int))) (zr true)) (An (An (ci (o27 hpre x1 hx1 y7 x8 hx8 y12 y14)) (zr nilN)) tv)))))) (An (An (An (zr (OB.cells 26 (cFrm f))) (zr true)) (An (An (zr (OB.cells 26 [iv 0,iv 0,nilv,nilv,nilv])) (zr true)) (An (An (zr 26) (An (An (An (zr (iv f.length)) (zr nilN)) (An (An (zr (iv f.slack)) (zr nilN)) (An (zr (some (Src.same 24))) (An (zr (some (Src.same 25))) (An (zr (some (Src.same 26))) tv))))) (zr true))) (An (An (zr (OB.vec 65 2 f.strips.length fun (i:Nat)=>cStrip (stp f i))) (zr true)) (An (An (zr (OB.vec 46 3 f.pieces.length fun (i:Nat)=>cPiece (pc f i))) (zr true)) (An (An (zr 27) (An (zr 1) (An (zr f.columns.length) (An (zr x1) (An (fun (i15:Nat)=>(fun (y16:i15 < f.columns.length)=>(fun (y17:i15 ≠ x1)=>(zr ([aInts (outC f out x1 i15)]))))) (An (An (zr (some (Src.same 20432))) tv) (zr true))))))) (An (An (zr 3) (An (zr 1) (An (o28 hpre x1 hx1 y7 x8 hx8 y12 y14) (fun (i18:Nat)=>(fun (y19:i18 < (keptW (col f x1) (isIn out) x8).length + 1)=>(o29 hpre x1 hx1 y7 x8 hx8 y12 y14 i18 y19)))))) tv))))))) (An (zr true) (zr true))))) (o30 hpre x1 hx1 y7 x8 hx8 y12 y14) (o31 hpre x1 hx1 y7 x8 hx8 y12 y14)
   ·refine swp_skip ?_
    refine zR [1,2,4,5,6,7] [0,8,32,24,25,26,5001] (Ak 1 (An (o32 hpre x1 hx1 y7 x8 hx8 y12 y14) (Ak 1 tv))) ?_
    exact zn (zE hE [] [(0,.same 0),(8,.same 8),(32,.same 32),(24,.same 24),(25,.same 25),(26,.same 26),(5001,.same 5001)] [1,6] [0,8,24,25] (An (An (An (zr (aInts out)) (zr true)) (An (An (zr (some (Src.same 0))) (zr nilP)) (An (An (zr (some (Src.same 8))) (zr nilP)) (An (An (zr (some (Src.same 32))) (zr nilP)) (An (An (zr (iv (x1:Int))) (zr true)) (An (An (ci (o33 hpre x1 hx1 y7 x8 hx8 y12 y14)) (zr nilN)) tv)))))) (An (An (An (zr (OB.cells 26 (cFrm f))) (zr true)) (An (An (zr (OB.cells 26 [iv 0,iv 0,nilv,nilv,nilv])) (zr true)) (An (An (zr 26) (An (An (An (zr (iv f.length)) (zr nilN)) (An (An (zr (iv f.slack)) (zr nilN)) (An (zr (some (Src.same 24))) (An (zr (some (Src.same 25))) (An (zr (some (Src.same 26))) tv))))) (zr true))) (An (An (zr (OB.vec 65 2 f.strips.length fun (i:Nat)=>cStrip (stp f i))) (zr true)) (An (An (zr (OB.vec 46 3 f.pieces.length fun (i:Nat)=>cPiece (pc f i))) (zr true)) (An (An (zr 27) (An (zr 1) (An (zr f.columns.length) (An (zr x1) (An (fun (i20:Nat)=>(fun (y21:i20 < f.columns.length)=>(fun (y22:i20 ≠ x1)=>(zr ([aInts (outC f out x1 i20)]))))) (An (An (zr (some (Src.same 5001))) tv) (zr true))))))) (An (An (zr 3) (An (zr 1) (An (o34 hpre x1 hx1 y7 x8 hx8 y12 y14) (fun (i23:Nat)=>(fun (y24:i23 < (keptW (col f x1) (isIn out) x8).length)=>(o35 hpre x1 hx1 y7 x8 hx8 y12 y14 i23 y24)))))) tv))))))) (An (zr true) (zr true))))) (o36 hpre x1 hx1 y7 x8 hx8 y12 y14) (o37 hpre x1 hx1 y7 x8 hx8 y12 y14)
  ·refine swp_exit ?_
   refine swp_ent (zE (st2:=ASt.mk [(1,aInts out),(2,AV.ptr 0 []),(4,AV.ptr 8 []),(5,AV.ptr 32 []),(6,iv (x1:Int)),(7,iv (x8:Int)),(28,bv (decide ((x8:Int) < (↑((col f x1).length):Int))))] [(26,OB.vec 27 1 f.columns.length fun (k:Nat)=>[aInts (outC f out (x1 + 1) k)]),(0,OB.cells 26 (cFrm f)),(8,OB.cells 26 [iv 0,iv 0,nilv,nilv,nilv]),(32,OB.cells 26 [iv f.length,iv f.slack,AV.vec 24,AV.vec 25,AV.vec 26]),(24,OB.vec 65 2 f.strips.length fun (i:Nat)=>cStrip (stp f i)),(25,OB.vec 46 3 f.pieces.length fun (i:Nat)=>cPiece (pc f i))] 20208) hE [5001] [(0,.same 0),(8,.same 8),(32,.same 32),(24,.same 24),(25,.same 25),(26,.same 26)] [1,6,7,28] [0,8,24,25] (An (An (An (zr (aInts out)) (zr true)) (An (An (zr (some (Src.same 0))) (zr nilP)) (An (An (zr (some (Src.same 8))) (zr nilP)) (An (An (zr (some (Src.same 32))) (zr nilP)) (An (An (zr (iv (x1:Int))) (zr true)) (An (An (zr (iv (x8:Int))) (zr true)) (An (An (zr (bv (decide ((x8:Int) < (↑((col f x1).length):Int))))) (zr true)) tv))))))) (An (An (An (zr 27) (An (zr 1) (An (zr f.columns.length) (An (fun (i25:Nat)=>(fun (y26:i25 < f.columns.length)=>(fun (y27:i25 ≠ x1)=>(o38 hpre x1 hx1 y7 x8 hx8 y12 i25 y26 y27)))) (An (An (An (zr 1) (An (o39 hpre x1 hx1 y7 x8 hx8 y12) (fun (i28:Nat)=>(fun (y29:i28 < (outC f out (x1 + 1) x1).length)=>(o40 hpre x1 hx1 y7 x8 hx8 y12 i28 y29))))) tv) (An (zr true) (zr true))))))) (An (An (zr (OB.cells 26 (cFrm f))) (zr true)) (An (An (zr (OB.cells 26 [iv 0,iv 0,nilv,nilv,nilv])) (zr true)) (An (An (zr 26) (An (An (An (zr (iv f.length)) (zr nilN)) (An (An (zr (iv f.slack)) (zr nilN)) (An (zr (some (Src.same 24))) (An (zr (some (Src.same 25))) (An (zr (some (Src.same 26))) tv))))) (zr true))) (An (An (zr (OB.vec 65 2 f.strips.length fun (i:Nat)=>cStrip (stp f i))) (zr true)) (An (An (zr (OB.vec 46 3 f.pieces.length fun (i:Nat)=>cPiece (pc f i))) (zr true)) tv)))))) (An (zr true) (zr true))))) ?_
   refine zR [1,2,4,5,6] [0,8,32,24,25,26] (Ak 1 (An (o41 hpre x1 hx1 y7 x8 hx8 y12) (Ak 1 tv))) ?_
   exact zn (zE hE [] [(0,.same 0),(8,.same 8),(32,.same 32),(24,.same 24),(25,.same 25),(26,.same 26)] [1] [0,8,24,25] (An (An (An (zr (aInts out)) (zr true)) (An (An (zr (some (Src.same 0))) (zr nilP)) (An (An (zr (some (Src.same 8))) (zr nilP)) (An (An (zr (some (Src.same 32))) (zr nilP)) (An (An (ci (o42 hpre x1 hx1 y7 x8 hx8 y12)) (zr nilN)) tv))))) (An (An (An (zr (OB.cells 26 (cFrm f))) (zr true)) (An (An (zr (OB.cells 26 [iv 0,iv 0,nilv,nilv,nilv])) (zr true)) (An (An (zr 26) (An (An (An (zr (iv f.length)) (zr nilN)) (An (An (zr (iv f.slack)) (zr nilN)) (An (zr (some (Src.same 24))) (An (zr (some (Src.same 25))) (An (zr (some (Src.same 26))) tv))))) (zr true))) (An (An (zr (OB.vec 65 2 f.strips.length fun (i:Nat)=>cStrip (stp f i))) (zr true)) (An (An (zr (OB.vec 46 3 f.pieces.length fun (i:Nat)=>cPiece (pc f i))) (zr true)) (An (An (zr 27) (An (zr 1) (An (zr f.columns.length) (An (fun (i30:Nat)=>(fun (y31:i30 < f.columns.length)=>(fun (y32:i30 ≠ x1 + 1)=>(zr ([aInts (outC f out (x1 + 1) i30)]))))) (An (An (An (zr 1) (An (o43 hpre x1 hx1 y7 x8 hx8 y12) (fun (i33:Nat)=>(fun (y34:i33 < (col f (x1 + 1)).length)=>(o44 hpre x1 hx1 y7 x8 hx8 y12 i33 y34))))) tv) (zr true)))))) tv)))))) (An (zr true) (zr true))))) (o45 hpre x1 hx1 y7 x8 hx8 y12) (o46 hpre x1 hx1 y7 x8 hx8 y12)
 ·refine swp_exit ?_
  refine swp_seq ?_
  refine swp_ent (zE (st2:=ASt.mk [(1,aInts out),(2,AV.ptr 0 []),(4,AV.ptr 8 []),(5,AV.ptr 32 []),(6,iv (x1:Int)),(14,bv (decide ((x1:Int) < (↑(f.columns.length):Int))))] [(26,OB.vec 27 1 f.columns.length fun (k:Nat)=>[aInts (col (withoutF f out) k)]),(0,OB.cells 26 (cFrm f)),(8,OB.cells 26 [iv 0,iv 0,nilv,nilv,nilv]),(32,OB.cells 26 [iv f.length,iv f.slack,AV.vec 24,AV.vec 25,AV.vec 26]),(24,OB.vec 65 2 f.strips.length fun (i:Nat)=>cStrip (stp f i)),(25,OB.vec 46 3 f.pieces.length fun (i:Nat)=>cPiece (pc f i))] 10096) hE [] [(0,.same 0),(8,.same 8),(32,.same 32),(24,.same 24),(25,.same 25),(26,.same 26)] [1,6,14] [0,8,24,25] (An (An (An (zr (aInts out)) (zr true)) (An (An (zr (some (Src.same 0))) (zr nilP)) (An (An (zr (some (Src.same 8))) (zr nilP)) (An (An (zr (some (Src.same 32))) (zr nilP)) (An (An (zr (iv (x1:Int))) (zr true)) (An (An (zr (bv (decide ((x1:Int) < (↑(f.columns.length):Int))))) (zr true)) tv)))))) (An (An (An (zr 27) (An (zr 1) (An (zr f.columns.length) (An (fun (i35:Nat)=>(fun (y36:i35 < f.columns.length)=>(fun (y37:i35 ≠ x1)=>(o47 hpre x1 hx1 y7 i35 y36 y37)))) (An (An (An (zr 1) (An (o48 hpre x1 hx1 y7) (fun (i38:Nat)=>(fun (y39:i38 < (col (withoutF f out) x1).length)=>(o49 hpre x1 hx1 y7 i38 y39))))) tv) (An (zr true) (zr true))))))) (An (An (zr (OB.cells 26 (cFrm f))) (zr true)) (An (An (zr (OB.cells 26 [iv 0,iv 0,nilv,nilv,nilv])) (zr true)) (An (An (zr 26) (An (An (An (zr (iv f.length)) (zr nilN)) (An (An (zr (iv f.slack)) (zr nilN)) (An (zr (some (Src.same 24))) (An (zr (some (Src.same 25))) (An (zr (some (Src.same 26))) tv))))) (zr true))) (An (An (zr (OB.vec 65 2 f.strips.length fun (i:Nat)=>cStrip (stp f i))) (zr true)) (An (An (zr (OB.vec 46 3 f.pieces.length fun (i:Nat)=>cPiece (pc f i))) (zr true)) tv)))))) (An (zr true) (zr true))))) ?_
  refine zR [4] [8,24,25,26] (Ak 2 tv) ?_
  refine swp_ret ?_
  exact zT [24,25,26] (An (Ak 1 tv) (An (An (An (ci (o50 hpre x1 hx1 y7)) (zr nilN)) (An (An (ci (o51 hpre x1 hx1 y7)) (zr nilN)) (An (An (zr 2) (An (o52 hpre x1 hx1 y7) (fun (i40:Nat)=>(fun (y41:i40 < (withoutF f out).strips.length)=>(o53 hpre x1 hx1 y7 i40 y41))))) (An (An (zr 3) (An (o54 hpre x1 hx1 y7) (fun (i42:Nat)=>(fun (y43:i42 < (withoutF f out).pieces.length)=>(o55 hpre x1 hx1 y7 i42 y43))))) (An (An (zr 1) (An (o56 hpre x1 hx1 y7) (fun (i44:Nat)=>(fun (y45:i44 < (withoutF f out).columns.length)=>(zr ([aInts (col (withoutF f out) i44)])))))) tv))))) (An (zr true) (An (zr true) (zr true)))))
theorem t106 (f:Frm) (out:List Int):Triple Try.prog 106 (s106 f out):=by
 apply w106
 all_goals (rintro ⟨hp,ho⟩; have hc:=hp.2.2.1)
 case o0=>rfl
 case o1=>intro i hi h0; rfl
 case o2=>exact Nat.zero_le _
 all_goals (intro x hx h; simp only [decide_eq_true_eq,decide_eq_false_iff_not] at h)
 case o47=>intro i hi hij; rw [show x=f.columns.length by omega,outC_end hi]
 case o48 =>
  have e:col f x = []:=getD_ge _ _ (by omega)
  have e2:col (withoutF f out) x = []:=by rw [without_col,e]; rfl
  rw [e,e2]
 case o49 =>
  intro i hi
  have e:col f x = []:=getD_ge _ _ (by omega)
  rw [without_col,e] at hi
  exact absurd hi (Nat.not_lt_zero _)
 case o56=>exact (without_len f out).symm
 case o50 | o51 | o52 | o54=>rfl
 case o53 | o55=>intro i hi; rfl
 case o3 | o4 | o5=>omega
 case o6 | o7=>rfl
 case o8=>exact Nat.zero_le _
 all_goals (have h4:=hp.2.2.2 x; intro y hy)
 case o9 | o10=>omega
 all_goals (intro h2; simp only [decide_eq_true_eq,decide_eq_false_iff_not] at h2)
 case o38=>intro i hi hij; rw [outC_other hij]
 case o39=>rw [outC_at,keptW_full (by omega)]
 case o40=>intro i hi; rw [outC_at,keptW_full (by omega)]
 case o43=>rw [outC_next]
 case o44=>intro i hi; rw [outC_next]
 case o11 | o12 | o13 | o14 | o41 | o42 | o45 | o46=>first | omega | (simp only [inI]; omega)
 all_goals (intro h3; have hk:=keptW_len (col f x) (isIn out) y)
 case o28=>rw [keptW_f (by omega) (by simpa using h3),List.length_append]; rfl
 case o29=>intro i hi; rw [keptW_f (by omega) (by simpa using h3)]; exact catF_one _ _ 0 (fun z=>[iv z]) rfl (fun _ _=>rfl) rfl hi
 case o34=>rw [keptW_t (by omega) (by simpa using h3)]
 case o35=>intro i hi; rw [keptW_t (by omega) (by simpa using h3)]
 all_goals (first | omega | (simp only [inI]; omega))
theorem w53 (f:Frm) (out:List Int)
  (o0:Sound f/\prodF f f.strips.length<=30/\List.length out <= big->smallF f)
  (o1:Sound f/\prodF f f.strips.length<=30/\List.length out <= big->List.length out <= big)
  (o2:Sound f/\prodF f f.strips.length<=30/\List.length out <= big->0=(↑0:Int))
  (o3:Sound f/\prodF f f.strips.length<=30/\List.length out <= big->Sound (withoutF f out))
  (o4:Sound f/\prodF f f.strips.length<=30/\List.length out <= big->0<=(withoutF f out).columns.length)
  (o5:Sound f/\prodF f f.strips.length<=30/\List.length out <= big->GoodLeft (withoutF f out) (stockTo f f.strips.length))
  (o6:Sound f/\prodF f f.strips.length<=30/\List.length out <= big->prodL (stockTo f f.strips.length)<=30)
  (o7:Sound f/\prodF f f.strips.length<=30/\List.length out <= big->decide (0 < (↑((laysC (withoutF f out) ((withoutF f out).columns.length - 0) (stockTo f f.strips.length)).length):Int))=canP f out) :
  Triple Try.prog 53 (s53 f out):=by
 refine triple_of Try.func53 rfl Try.call53 T0_ok _ rfl rfl rfl rfl (Nat.le_of_ble_eq_true (by kernel_rfl)) (fun _ _ _ _ h=>h) ?_
 intro hpre C hC _ hE
 obtain ⟨P,w0,E0,av,hA,ro,df⟩:=C
 obtain ⟨rfl,rfl,rfl⟩:=hC
 refine swp_seq ?_
 refine zR [1,2] [0] (Ak 2 tv) ?_
 refine swp_seq ?_
 refine zC ([(2,CallSpec.eq (s106 f out) [true,true]),(4,CallSpec.eq (s107 f) [true]),(5,CallSpec.eq (c53 f out) [true,false,true])]) [4] [] (Ak 2 (An (An (An (zr (AV.agg (cFrm f))) (An (zr (aInts out)) tv)) (An (t106 (f) (out)) (An (An (o0 hpre) (o1 hpre)) (Ak 1 (fun (i0:Env)=>tv))))) (Ak 1 (An (An (An (zr (AV.agg (cFrm f))) tv) (An (t107 (f)) (An hpre.1 (Ak 1 (fun (i1:Env)=>tv))))) (An (An (An (zr (AV.agg (cFrm (withoutF f out)))) (An (ci (o2 hpre)) (An (zr (aInts (stockTo f f.strips.length))) tv))) (An (t105 (withoutF f out) (0) (stockTo f f.strips.length)) (An (An (o3 hpre) (An (o4 hpre) (An (o5 hpre) (o6 hpre)))) (Ak 1 (fun (i2:Env)=>tv))))) (Ak 3 tv)))))) ?_
 refine swp_ret ?_
 exact zT [] (An (Ak 1 tv) (An (An (cb (o7 hpre)) (zr nilN)) (An (zr true) (An (zr true) (zr true)))))
theorem t53 (f:Frm) (out:List Int):Triple Try.prog 53 (s53 f out):=by
 apply w53
 all_goals (rintro ⟨hs,hpr,ho⟩)
 case o0=>exact sound_small hs
 case o1=>exact ho
 case o2=>rfl
 case o3=>exact without_sound hs out
 case o4=>exact Nat.zero_le _
 case o5=>exact without_good hs out
 case o6=>have:=prod_stock hs _ (Nat.le_refl _); omega
 case o7=>exact (can_lays hs out).symm
theorem w43 (f:Frm)
  (o0:fitsF f/\(okFrm f=true->prodF f f.strips.length<=30)->(!decide (checkF f=0))=true->(refuseL f).length=0)
  (o1:fitsF f/\(okFrm f=true->prodF f f.strips.length<=30)->(!decide (checkF f=0))=true->checkF f=refuseE f)
  (o2:fitsF f/\(okFrm f=true->prodF f f.strips.length<=30)->(!decide (checkF f=0))=false->(outB (refIn f 0 0)).length=0)
  (o3:fitsF f/\(okFrm f=true->prodF f f.strips.length<=30)->(!decide (checkF f=0))=false->false=Option.isSome (refIn f 0 0))
  (o4:fitsF f/\(okFrm f=true->prodF f f.strips.length<=30)->(!decide (checkF f=0))=false->0=(↑0:Int))
  (o5:fitsF f/\(okFrm f=true->prodF f f.strips.length<=30)->(!decide (checkF f=0))=false->0<=f.pieces.length + 1)
  (o6:fitsF f/\(okFrm f=true->prodF f f.strips.length<=30)->(!decide (checkF f=0))=false -> ∀ (x2:Nat),x2<=f.pieces.length + 1->decide ((x2:Int)<=(↑(f.pieces.length):Int))=true->0<=x2)
  (o7:fitsF f/\(okFrm f=true->prodF f f.strips.length<=30)->(!decide (checkF f=0))=false -> ∀ (x2:Nat),x2<=f.pieces.length + 1->decide ((x2:Int)<=(↑(f.pieces.length):Int))=true->x2<=f.pieces.length)
  (o8:fitsF f/\(okFrm f=true->prodF f f.strips.length<=30)->(!decide (checkF f=0))=false -> ∀ (x2:Nat),x2<=f.pieces.length + 1->decide ((x2:Int)<=(↑(f.pieces.length):Int))=true->f.pieces.length<=6)
  (o9:fitsF f/\(okFrm f=true->prodF f f.strips.length<=30)->(!decide (checkF f=0))=false -> ∀ (x2:Nat),x2<=f.pieces.length + 1->decide ((x2:Int)<=(↑(f.pieces.length):Int))=true->RisN f.pieces.length [])
  (o10:fitsF f/\(okFrm f=true->prodF f f.strips.length<=30)->(!decide (checkF f=0))=false -> ∀ (x2:Nat),x2<=f.pieces.length + 1->decide ((x2:Int)<=(↑(f.pieces.length):Int))=true->0=(↑0:Int))
  (o11:fitsF f/\(okFrm f=true->prodF f f.strips.length<=30)->(!decide (checkF f=0))=false -> ∀ (x2:Nat),x2<=f.pieces.length + 1->decide ((x2:Int)<=(↑(f.pieces.length):Int))=true->0<=(combP x2 0 f.pieces.length).length)
  (o12:fitsF f/\(okFrm f=true->prodF f f.strips.length<=30)->(!decide (checkF f=0))=false -> ∀ (x2:Nat),x2<=f.pieces.length + 1->decide ((x2:Int)<=(↑(f.pieces.length):Int))=true -> ∀ (x5:Nat),x5<=(combP x2 0 f.pieces.length).length->decide ((x5:Int) < (↑((combF [] x2 f.pieces.length).length):Int))=true->(!!Option.isSome (refIn f x2 x5))=true->0<=(x5:Int))
  (o13:fitsF f/\(okFrm f=true->prodF f f.strips.length<=30)->(!decide (checkF f=0))=false -> ∀ (x2:Nat),x2<=f.pieces.length + 1->decide ((x2:Int)<=(↑(f.pieces.length):Int))=true -> ∀ (x5:Nat),x5<=(combP x2 0 f.pieces.length).length->decide ((x5:Int) < (↑((combF [] x2 f.pieces.length).length):Int))=true->(!!Option.isSome (refIn f x2 x5))=true->(x5:Int) < (↑((combF [] x2 f.pieces.length).length):Int))
  (o14:fitsF f/\(okFrm f=true->prodF f f.strips.length<=30)->(!decide (checkF f=0))=false -> ∀ (x2:Nat),x2<=f.pieces.length + 1->decide ((x2:Int)<=(↑(f.pieces.length):Int))=true -> ∀ (x5:Nat),x5<=(combP x2 0 f.pieces.length).length->decide ((x5:Int) < (↑((combF [] x2 f.pieces.length).length):Int))=true->(!!Option.isSome (refIn f x2 x5))=true->((combF [] x2 f.pieces.length).getD x5 []).length=((combP x2 0 f.pieces.length).getD x5 []).length)
  (o15:fitsF f/\(okFrm f=true->prodF f f.strips.length<=30)->(!decide (checkF f=0))=false -> ∀ (x2:Nat),x2<=f.pieces.length + 1->decide ((x2:Int)<=(↑(f.pieces.length):Int))=true -> ∀ (x5:Nat),x5<=(combP x2 0 f.pieces.length).length->decide ((x5:Int) < (↑((combF [] x2 f.pieces.length).length):Int))=true->(!!Option.isSome (refIn f x2 x5))=true -> ∀ (i18:Nat),i18 < ((combP x2 0 f.pieces.length).getD x5 []).length -> [iv (((combF [] x2 f.pieces.length).getD x5 []).getD i18 0)] = [iv (((combP x2 0 f.pieces.length).getD x5 []).getD i18 0)])
  (o16:fitsF f/\(okFrm f=true->prodF f f.strips.length<=30)->(!decide (checkF f=0))=false -> ∀ (x2:Nat),x2<=f.pieces.length + 1->decide ((x2:Int)<=(↑(f.pieces.length):Int))=true -> ∀ (x5:Nat),x5<=(combP x2 0 f.pieces.length).length->decide ((x5:Int) < (↑((combF [] x2 f.pieces.length).length):Int))=true->(!!Option.isSome (refIn f x2 x5))=true->Sound f)
  (o17:fitsF f/\(okFrm f=true->prodF f f.strips.length<=30)->(!decide (checkF f=0))=false -> ∀ (x2:Nat),x2<=f.pieces.length + 1->decide ((x2:Int)<=(↑(f.pieces.length):Int))=true -> ∀ (x5:Nat),x5<=(combP x2 0 f.pieces.length).length->decide ((x5:Int) < (↑((combF [] x2 f.pieces.length).length):Int))=true->(!!Option.isSome (refIn f x2 x5))=true->goodL f ((combP x2 0 f.pieces.length).getD x5 []))
  (o18:fitsF f/\(okFrm f=true->prodF f f.strips.length<=30)->(!decide (checkF f=0))=false -> ∀ (x2:Nat),x2<=f.pieces.length + 1->decide ((x2:Int)<=(↑(f.pieces.length):Int))=true -> ∀ (x5:Nat),x5<=(combP x2 0 f.pieces.length).length->decide ((x5:Int) < (↑((combF [] x2 f.pieces.length).length):Int))=true->(!!Option.isSome (refIn f x2 x5))=true->Sound f)
  (o19:fitsF f/\(okFrm f=true->prodF f f.strips.length<=30)->(!decide (checkF f=0))=false -> ∀ (x2:Nat),x2<=f.pieces.length + 1->decide ((x2:Int)<=(↑(f.pieces.length):Int))=true -> ∀ (x5:Nat),x5<=(combP x2 0 f.pieces.length).length->decide ((x5:Int) < (↑((combF [] x2 f.pieces.length).length):Int))=true->(!!Option.isSome (refIn f x2 x5))=true->goodL f (outB (refIn f x2 x5)))
  (o20:fitsF f/\(okFrm f=true->prodF f f.strips.length<=30)->(!decide (checkF f=0))=false -> ∀ (x2:Nat),x2<=f.pieces.length + 1->decide ((x2:Int)<=(↑(f.pieces.length):Int))=true -> ∀ (x5:Nat),x5<=(combP x2 0 f.pieces.length).length->decide ((x5:Int) < (↑((combF [] x2 f.pieces.length).length):Int))=true->(!Option.isSome (refIn f x2 x5))=false->(!!Option.isSome (refIn f x2 x5))=true)
  (o21:fitsF f/\(okFrm f=true->prodF f f.strips.length<=30)->(!decide (checkF f=0))=false -> ∀ (x2:Nat),x2<=f.pieces.length + 1->decide ((x2:Int)<=(↑(f.pieces.length):Int))=true -> ∀ (x5:Nat),x5<=(combP x2 0 f.pieces.length).length->decide ((x5:Int) < (↑((combF [] x2 f.pieces.length).length):Int))=true->(bif !Option.isSome (refIn f x2 x5) then true else decide (penceP f ((combP x2 0 f.pieces.length).getD x5 []) < penceP f (outB (refIn f x2 x5))))=true->0<=(x5:Int))
  (o22:fitsF f/\(okFrm f=true->prodF f f.strips.length<=30)->(!decide (checkF f=0))=false -> ∀ (x2:Nat),x2<=f.pieces.length + 1->decide ((x2:Int)<=(↑(f.pieces.length):Int))=true -> ∀ (x5:Nat),x5<=(combP x2 0 f.pieces.length).length->decide ((x5:Int) < (↑((combF [] x2 f.pieces.length).length):Int))=true->(bif !Option.isSome (refIn f x2 x5) then true else decide (penceP f ((combP x2 0 f.pieces.length).getD x5 []) < penceP f (outB (refIn f x2 x5))))=true->(x5:Int) < (↑((combF [] x2 f.pieces.length).length):Int))
  (o23:fitsF f/\(okFrm f=true->prodF f f.strips.length<=30)->(!decide (checkF f=0))=false -> ∀ (x2:Nat),x2<=f.pieces.length + 1->decide ((x2:Int)<=(↑(f.pieces.length):Int))=true -> ∀ (x5:Nat),x5<=(combP x2 0 f.pieces.length).length->decide ((x5:Int) < (↑((combF [] x2 f.pieces.length).length):Int))=true->(bif !Option.isSome (refIn f x2 x5) then true else decide (penceP f ((combP x2 0 f.pieces.length).getD x5 []) < penceP f (outB (refIn f x2 x5))))=true->((combF [] x2 f.pieces.length).getD x5 []).length=((combP x2 0 f.pieces.length).getD x5 []).length)
  (o24:fitsF f/\(okFrm f=true->prodF f f.strips.length<=30)->(!decide (checkF f=0))=false -> ∀ (x2:Nat),x2<=f.pieces.length + 1->decide ((x2:Int)<=(↑(f.pieces.length):Int))=true -> ∀ (x5:Nat),x5<=(combP x2 0 f.pieces.length).length->decide ((x5:Int) < (↑((combF [] x2 f.pieces.length).length):Int))=true->(bif !Option.isSome (refIn f x2 x5) then true else decide (penceP f ((combP x2 0 f.pieces.length).getD x5 []) < penceP f (outB (refIn f x2 x5))))=true -> ∀ (i45:Nat),i45 < ((combP x2 0 f.pieces.length).getD x5 []).length -> [iv (((combF [] x2 f.pieces.length).getD x5 []).getD i45 0)] = [iv (((combP x2 0 f.pieces.length).getD x5 []).getD i45 0)])
  (o25:fitsF f/\(okFrm f=true->prodF f f.strips.length<=30)->(!decide (checkF f=0))=false -> ∀ (x2:Nat),x2<=f.pieces.length + 1->decide ((x2:Int)<=(↑(f.pieces.length):Int))=true -> ∀ (x5:Nat),x5<=(combP x2 0 f.pieces.length).length->decide ((x5:Int) < (↑((combF [] x2 f.pieces.length).length):Int))=true->(bif !Option.isSome (refIn f x2 x5) then true else decide (penceP f ((combP x2 0 f.pieces.length).getD x5 []) < penceP f (outB (refIn f x2 x5))))=true->Sound f)
  (o26:fitsF f/\(okFrm f=true->prodF f f.strips.length<=30)->(!decide (checkF f=0))=false -> ∀ (x2:Nat),x2<=f.pieces.length + 1->decide ((x2:Int)<=(↑(f.pieces.length):Int))=true -> ∀ (x5:Nat),x5<=(combP x2 0 f.pieces.length).length->decide ((x5:Int) < (↑((combF [] x2 f.pieces.length).length):Int))=true->(bif !Option.isSome (refIn f x2 x5) then true else decide (penceP f ((combP x2 0 f.pieces.length).getD x5 []) < penceP f (outB (refIn f x2 x5))))=true->prodF f f.strips.length<=30)
  (o27:fitsF f/\(okFrm f=true->prodF f f.strips.length<=30)->(!decide (checkF f=0))=false -> ∀ (x2:Nat),x2<=f.pieces.length + 1->decide ((x2:Int)<=(↑(f.pieces.length):Int))=true -> ∀ (x5:Nat),x5<=(combP x2 0 f.pieces.length).length->decide ((x5:Int) < (↑((combF [] x2 f.pieces.length).length):Int))=true->(bif !Option.isSome (refIn f x2 x5) then true else decide (penceP f ((combP x2 0 f.pieces.length).getD x5 []) < penceP f (outB (refIn f x2 x5))))=true->((combP x2 0 f.pieces.length).getD x5 []).length<=big)
  (o28:fitsF f/\(okFrm f=true->prodF f f.strips.length<=30)->(!decide (checkF f=0))=false -> ∀ (x2:Nat),x2<=f.pieces.length + 1->decide ((x2:Int)<=(↑(f.pieces.length):Int))=true -> ∀ (x5:Nat),x5<=(combP x2 0 f.pieces.length).length->decide ((x5:Int) < (↑((combF [] x2 f.pieces.length).length):Int))=true->(bif bif !Option.isSome (refIn f x2 x5) then true else decide (penceP f ((combP x2 0 f.pieces.length).getD x5 []) < penceP f (outB (refIn f x2 x5))) then canP f ((combP x2 0 f.pieces.length).getD x5 []) else false)=true->0<=(x5:Int))
  (o29:fitsF f/\(okFrm f=true->prodF f f.strips.length<=30)->(!decide (checkF f=0))=false -> ∀ (x2:Nat),x2<=f.pieces.length + 1->decide ((x2:Int)<=(↑(f.pieces.length):Int))=true -> ∀ (x5:Nat),x5<=(combP x2 0 f.pieces.length).length->decide ((x5:Int) < (↑((combF [] x2 f.pieces.length).length):Int))=true->(bif bif !Option.isSome (refIn f x2 x5) then true else decide (penceP f ((combP x2 0 f.pieces.length).getD x5 []) < penceP f (outB (refIn f x2 x5))) then canP f ((combP x2 0 f.pieces.length).getD x5 []) else false)=true->(x5:Int) < (↑((combF [] x2 f.pieces.length).length):Int))
  (o30:fitsF f/\(okFrm f=true->prodF f f.strips.length<=30)->(!decide (checkF f=0))=false -> ∀ (x2:Nat),x2<=f.pieces.length + 1->decide ((x2:Int)<=(↑(f.pieces.length):Int))=true -> ∀ (x5:Nat),x5<=(combP x2 0 f.pieces.length).length->decide ((x5:Int) < (↑((combF [] x2 f.pieces.length).length):Int))=true->(bif bif !Option.isSome (refIn f x2 x5) then true else decide (penceP f ((combP x2 0 f.pieces.length).getD x5 []) < penceP f (outB (refIn f x2 x5))) then canP f ((combP x2 0 f.pieces.length).getD x5 []) else false)=true->inI ((x5:Int) + 1))
  (o31:fitsF f/\(okFrm f=true->prodF f f.strips.length<=30)->(!decide (checkF f=0))=false -> ∀ (x2:Nat),x2<=f.pieces.length + 1->decide ((x2:Int)<=(↑(f.pieces.length):Int))=true -> ∀ (x5:Nat),x5<=(combP x2 0 f.pieces.length).length->decide ((x5:Int) < (↑((combF [] x2 f.pieces.length).length):Int))=true->(bif bif !Option.isSome (refIn f x2 x5) then true else decide (penceP f ((combP x2 0 f.pieces.length).getD x5 []) < penceP f (outB (refIn f x2 x5))) then canP f ((combP x2 0 f.pieces.length).getD x5 []) else false)=true->((combF [] x2 f.pieces.length).getD x5 []).length=(outB (refIn f x2 (x5 + 1))).length)
  (o32:fitsF f/\(okFrm f=true->prodF f f.strips.length<=30)->(!decide (checkF f=0))=false -> ∀ (x2:Nat),x2<=f.pieces.length + 1->decide ((x2:Int)<=(↑(f.pieces.length):Int))=true -> ∀ (x5:Nat),x5<=(combP x2 0 f.pieces.length).length->decide ((x5:Int) < (↑((combF [] x2 f.pieces.length).length):Int))=true->(bif bif !Option.isSome (refIn f x2 x5) then true else decide (penceP f ((combP x2 0 f.pieces.length).getD x5 []) < penceP f (outB (refIn f x2 x5))) then canP f ((combP x2 0 f.pieces.length).getD x5 []) else false)=true -> ∀ (i51:Nat),i51 < (outB (refIn f x2 (x5 + 1))).length -> [iv (((combF [] x2 f.pieces.length).getD x5 []).getD i51 0)] = [iv ((outB (refIn f x2 (x5 + 1))).getD i51 0)])
  (o33:fitsF f/\(okFrm f=true->prodF f f.strips.length<=30)->(!decide (checkF f=0))=false -> ∀ (x2:Nat),x2<=f.pieces.length + 1->decide ((x2:Int)<=(↑(f.pieces.length):Int))=true -> ∀ (x5:Nat),x5<=(combP x2 0 f.pieces.length).length->decide ((x5:Int) < (↑((combF [] x2 f.pieces.length).length):Int))=true->(bif bif !Option.isSome (refIn f x2 x5) then true else decide (penceP f ((combP x2 0 f.pieces.length).getD x5 []) < penceP f (outB (refIn f x2 x5))) then canP f ((combP x2 0 f.pieces.length).getD x5 []) else false)=true->true=Option.isSome (refIn f x2 (x5 + 1)))
  (o34:fitsF f/\(okFrm f=true->prodF f f.strips.length<=30)->(!decide (checkF f=0))=false -> ∀ (x2:Nat),x2<=f.pieces.length + 1->decide ((x2:Int)<=(↑(f.pieces.length):Int))=true -> ∀ (x5:Nat),x5<=(combP x2 0 f.pieces.length).length->decide ((x5:Int) < (↑((combF [] x2 f.pieces.length).length):Int))=true->(bif bif !Option.isSome (refIn f x2 x5) then true else decide (penceP f ((combP x2 0 f.pieces.length).getD x5 []) < penceP f (outB (refIn f x2 x5))) then canP f ((combP x2 0 f.pieces.length).getD x5 []) else false)=true->(x5:Int) + 1=(↑(x5 + 1):Int))
  (o35:fitsF f/\(okFrm f=true->prodF f f.strips.length<=30)->(!decide (checkF f=0))=false -> ∀ (x2:Nat),x2<=f.pieces.length + 1->decide ((x2:Int)<=(↑(f.pieces.length):Int))=true -> ∀ (x5:Nat),x5<=(combP x2 0 f.pieces.length).length->decide ((x5:Int) < (↑((combF [] x2 f.pieces.length).length):Int))=true->(bif bif !Option.isSome (refIn f x2 x5) then true else decide (penceP f ((combP x2 0 f.pieces.length).getD x5 []) < penceP f (outB (refIn f x2 x5))) then canP f ((combP x2 0 f.pieces.length).getD x5 []) else false)=true->x5 + 1<=(combP x2 0 f.pieces.length).length)
  (o36:fitsF f/\(okFrm f=true->prodF f f.strips.length<=30)->(!decide (checkF f=0))=false -> ∀ (x2:Nat),x2<=f.pieces.length + 1->decide ((x2:Int)<=(↑(f.pieces.length):Int))=true -> ∀ (x5:Nat),x5<=(combP x2 0 f.pieces.length).length->decide ((x5:Int) < (↑((combF [] x2 f.pieces.length).length):Int))=true->(bif bif !Option.isSome (refIn f x2 x5) then true else decide (penceP f ((combP x2 0 f.pieces.length).getD x5 []) < penceP f (outB (refIn f x2 x5))) then canP f ((combP x2 0 f.pieces.length).getD x5 []) else false)=true->(combP x2 0 f.pieces.length).length - (x5 + 1) < (combP x2 0 f.pieces.length).length - x5)
  (o37:fitsF f/\(okFrm f=true->prodF f f.strips.length<=30)->(!decide (checkF f=0))=false -> ∀ (x2:Nat),x2<=f.pieces.length + 1->decide ((x2:Int)<=(↑(f.pieces.length):Int))=true -> ∀ (x5:Nat),x5<=(combP x2 0 f.pieces.length).length->decide ((x5:Int) < (↑((combF [] x2 f.pieces.length).length):Int))=true->(bif bif !Option.isSome (refIn f x2 x5) then true else decide (penceP f ((combP x2 0 f.pieces.length).getD x5 []) < penceP f (outB (refIn f x2 x5))) then canP f ((combP x2 0 f.pieces.length).getD x5 []) else false)=false->inI ((x5:Int) + 1))
  (o38:fitsF f/\(okFrm f=true->prodF f f.strips.length<=30)->(!decide (checkF f=0))=false -> ∀ (x2:Nat),x2<=f.pieces.length + 1->decide ((x2:Int)<=(↑(f.pieces.length):Int))=true -> ∀ (x5:Nat),x5<=(combP x2 0 f.pieces.length).length->decide ((x5:Int) < (↑((combF [] x2 f.pieces.length).length):Int))=true->(bif bif !Option.isSome (refIn f x2 x5) then true else decide (penceP f ((combP x2 0 f.pieces.length).getD x5 []) < penceP f (outB (refIn f x2 x5))) then canP f ((combP x2 0 f.pieces.length).getD x5 []) else false)=false->(outB (refIn f x2 x5)).length=(outB (refIn f x2 (x5 + 1))).length)
  (o39:fitsF f/\(okFrm f=true->prodF f f.strips.length<=30)->(!decide (checkF f=0))=false -> ∀ (x2:Nat),x2<=f.pieces.length + 1->decide ((x2:Int)<=(↑(f.pieces.length):Int))=true -> ∀ (x5:Nat),x5<=(combP x2 0 f.pieces.length).length->decide ((x5:Int) < (↑((combF [] x2 f.pieces.length).length):Int))=true->(bif bif !Option.isSome (refIn f x2 x5) then true else decide (penceP f ((combP x2 0 f.pieces.length).getD x5 []) < penceP f (outB (refIn f x2 x5))) then canP f ((combP x2 0 f.pieces.length).getD x5 []) else false)=false -> ∀ (i53:Nat),i53 < (outB (refIn f x2 (x5 + 1))).length -> [iv ((outB (refIn f x2 x5)).getD i53 0)] = [iv ((outB (refIn f x2 (x5 + 1))).getD i53 0)])
  (o40:fitsF f/\(okFrm f=true->prodF f f.strips.length<=30)->(!decide (checkF f=0))=false -> ∀ (x2:Nat),x2<=f.pieces.length + 1->decide ((x2:Int)<=(↑(f.pieces.length):Int))=true -> ∀ (x5:Nat),x5<=(combP x2 0 f.pieces.length).length->decide ((x5:Int) < (↑((combF [] x2 f.pieces.length).length):Int))=true->(bif bif !Option.isSome (refIn f x2 x5) then true else decide (penceP f ((combP x2 0 f.pieces.length).getD x5 []) < penceP f (outB (refIn f x2 x5))) then canP f ((combP x2 0 f.pieces.length).getD x5 []) else false)=false->Option.isSome (refIn f x2 x5)=Option.isSome (refIn f x2 (x5 + 1)))
  (o41:fitsF f/\(okFrm f=true->prodF f f.strips.length<=30)->(!decide (checkF f=0))=false -> ∀ (x2:Nat),x2<=f.pieces.length + 1->decide ((x2:Int)<=(↑(f.pieces.length):Int))=true -> ∀ (x5:Nat),x5<=(combP x2 0 f.pieces.length).length->decide ((x5:Int) < (↑((combF [] x2 f.pieces.length).length):Int))=true->(bif bif !Option.isSome (refIn f x2 x5) then true else decide (penceP f ((combP x2 0 f.pieces.length).getD x5 []) < penceP f (outB (refIn f x2 x5))) then canP f ((combP x2 0 f.pieces.length).getD x5 []) else false)=false->(x5:Int) + 1=(↑(x5 + 1):Int))
  (o42:fitsF f/\(okFrm f=true->prodF f f.strips.length<=30)->(!decide (checkF f=0))=false -> ∀ (x2:Nat),x2<=f.pieces.length + 1->decide ((x2:Int)<=(↑(f.pieces.length):Int))=true -> ∀ (x5:Nat),x5<=(combP x2 0 f.pieces.length).length->decide ((x5:Int) < (↑((combF [] x2 f.pieces.length).length):Int))=true->(bif bif !Option.isSome (refIn f x2 x5) then true else decide (penceP f ((combP x2 0 f.pieces.length).getD x5 []) < penceP f (outB (refIn f x2 x5))) then canP f ((combP x2 0 f.pieces.length).getD x5 []) else false)=false->x5 + 1<=(combP x2 0 f.pieces.length).length)
  (o43:fitsF f/\(okFrm f=true->prodF f f.strips.length<=30)->(!decide (checkF f=0))=false -> ∀ (x2:Nat),x2<=f.pieces.length + 1->decide ((x2:Int)<=(↑(f.pieces.length):Int))=true -> ∀ (x5:Nat),x5<=(combP x2 0 f.pieces.length).length->decide ((x5:Int) < (↑((combF [] x2 f.pieces.length).length):Int))=true->(bif bif !Option.isSome (refIn f x2 x5) then true else decide (penceP f ((combP x2 0 f.pieces.length).getD x5 []) < penceP f (outB (refIn f x2 x5))) then canP f ((combP x2 0 f.pieces.length).getD x5 []) else false)=false->(combP x2 0 f.pieces.length).length - (x5 + 1) < (combP x2 0 f.pieces.length).length - x5)
  (o44:fitsF f/\(okFrm f=true->prodF f f.strips.length<=30)->(!decide (checkF f=0))=false -> ∀ (x2:Nat),x2<=f.pieces.length + 1->decide ((x2:Int)<=(↑(f.pieces.length):Int))=true -> ∀ (x5:Nat),x5<=(combP x2 0 f.pieces.length).length->decide ((x5:Int) < (↑((combF [] x2 f.pieces.length).length):Int))=false->inI ((x2:Int) + 1))
  (o45:fitsF f/\(okFrm f=true->prodF f f.strips.length<=30)->(!decide (checkF f=0))=false -> ∀ (x2:Nat),x2<=f.pieces.length + 1->decide ((x2:Int)<=(↑(f.pieces.length):Int))=true -> ∀ (x5:Nat),x5<=(combP x2 0 f.pieces.length).length->decide ((x5:Int) < (↑((combF [] x2 f.pieces.length).length):Int))=false->(outB (refIn f x2 x5)).length=(outB (refIn f (x2 + 1) 0)).length)
  (o46:fitsF f/\(okFrm f=true->prodF f f.strips.length<=30)->(!decide (checkF f=0))=false -> ∀ (x2:Nat),x2<=f.pieces.length + 1->decide ((x2:Int)<=(↑(f.pieces.length):Int))=true -> ∀ (x5:Nat),x5<=(combP x2 0 f.pieces.length).length->decide ((x5:Int) < (↑((combF [] x2 f.pieces.length).length):Int))=false -> ∀ (i55:Nat),i55 < (outB (refIn f (x2 + 1) 0)).length -> [iv ((outB (refIn f x2 x5)).getD i55 0)] = [iv ((outB (refIn f (x2 + 1) 0)).getD i55 0)])
  (o47:fitsF f/\(okFrm f=true->prodF f f.strips.length<=30)->(!decide (checkF f=0))=false -> ∀ (x2:Nat),x2<=f.pieces.length + 1->decide ((x2:Int)<=(↑(f.pieces.length):Int))=true -> ∀ (x5:Nat),x5<=(combP x2 0 f.pieces.length).length->decide ((x5:Int) < (↑((combF [] x2 f.pieces.length).length):Int))=false->Option.isSome (refIn f x2 x5)=Option.isSome (refIn f (x2 + 1) 0))
  (o48:fitsF f/\(okFrm f=true->prodF f f.strips.length<=30)->(!decide (checkF f=0))=false -> ∀ (x2:Nat),x2<=f.pieces.length + 1->decide ((x2:Int)<=(↑(f.pieces.length):Int))=true -> ∀ (x5:Nat),x5<=(combP x2 0 f.pieces.length).length->decide ((x5:Int) < (↑((combF [] x2 f.pieces.length).length):Int))=false->(x2:Int) + 1=(↑(x2 + 1):Int))
  (o49:fitsF f/\(okFrm f=true->prodF f f.strips.length<=30)->(!decide (checkF f=0))=false -> ∀ (x2:Nat),x2<=f.pieces.length + 1->decide ((x2:Int)<=(↑(f.pieces.length):Int))=true -> ∀ (x5:Nat),x5<=(combP x2 0 f.pieces.length).length->decide ((x5:Int) < (↑((combF [] x2 f.pieces.length).length):Int))=false->x2 + 1<=f.pieces.length + 1)
  (o50:fitsF f/\(okFrm f=true->prodF f f.strips.length<=30)->(!decide (checkF f=0))=false -> ∀ (x2:Nat),x2<=f.pieces.length + 1->decide ((x2:Int)<=(↑(f.pieces.length):Int))=true -> ∀ (x5:Nat),x5<=(combP x2 0 f.pieces.length).length->decide ((x5:Int) < (↑((combF [] x2 f.pieces.length).length):Int))=false->f.pieces.length + 1 - (x2 + 1) < f.pieces.length + 1 - x2)
  (o51:fitsF f/\(okFrm f=true->prodF f f.strips.length<=30)->(!decide (checkF f=0))=false -> ∀ (x2:Nat),x2<=f.pieces.length + 1->decide ((x2:Int)<=(↑(f.pieces.length):Int))=false->(!Option.isSome (refIn f x2 0))=true->(refuseL f).length=0)
  (o52:fitsF f/\(okFrm f=true->prodF f f.strips.length<=30)->(!decide (checkF f=0))=false -> ∀ (x2:Nat),x2<=f.pieces.length + 1->decide ((x2:Int)<=(↑(f.pieces.length):Int))=false->(!Option.isSome (refIn f x2 0))=true->3=refuseE f)
  (o53:fitsF f/\(okFrm f=true->prodF f f.strips.length<=30)->(!decide (checkF f=0))=false -> ∀ (x2:Nat),x2<=f.pieces.length + 1->decide ((x2:Int)<=(↑(f.pieces.length):Int))=false->(!Option.isSome (refIn f x2 0))=false->(outB (refIn f x2 0)).length=(refuseL f).length)
  (o54:fitsF f/\(okFrm f=true->prodF f f.strips.length<=30)->(!decide (checkF f=0))=false -> ∀ (x2:Nat),x2<=f.pieces.length + 1->decide ((x2:Int)<=(↑(f.pieces.length):Int))=false->(!Option.isSome (refIn f x2 0))=false -> ∀ (i58:Nat),i58 < (refuseL f).length -> [iv ((outB (refIn f x2 0)).getD i58 0)] = [iv ((refuseL f).getD i58 0)])
  (o55:fitsF f/\(okFrm f=true->prodF f f.strips.length<=30)->(!decide (checkF f=0))=false -> ∀ (x2:Nat),x2<=f.pieces.length + 1->decide ((x2:Int)<=(↑(f.pieces.length):Int))=false->(!Option.isSome (refIn f x2 0))=false->0=refuseE f) :
  Triple Try.prog 43 (s43 f):=by
 refine triple_of Try.func43 rfl Try.call43 T0_ok _ rfl rfl rfl rfl (Nat.le_of_ble_eq_true (by kernel_rfl)) (fun _ _ _ _ h=>h) ?_
 intro hpre C hC _ hE
 obtain ⟨P,w0,E0,av,hA,ro,df⟩:=C
 obtain ⟨rfl,rfl,rfl⟩:=hC
 refine swp_seq ?_
 refine zR [1] [0] (Ak 3 tv) ?_
 refine swp_seq ?_
 refine swp_seq ?_
 refine zC ([(1,CallSpec.eq (s35 f) [true])]) [1,4] [0] (Ak 1 (An (An (An (zr (AV.agg (cFrm f))) tv) (An (t35 (f)) (An hpre.1 (Ak 1 (fun (i0:Env)=>tv))))) (Ak 1 tv))) ?_
 refine swp_seq ?_
 refine zR [1,4,13] [0] (Ak 2 tv) ?_
 refine zI (!decide (checkF f=0)) (fun y1 => ?_) (fun y1 => ?_)
 ·refine swp_seq ?_
  refine zR [2,3] [] (Ak 3 tv) ?_
  refine swp_ret ?_
  exact zT [] (An (Ak 2 tv) (An (An (o0 hpre y1) (An (An (ci (o1 hpre y1)) (zr nilN)) tv)) (An (zr true) (An (zr true) (zr true)))))
 ·refine swp_skip ?_
  refine swp_seq ?_
  refine zR [1,5] [0] (Ak 1 tv) ?_
  refine swp_seq ?_
  refine zR [1,5,6] [0] (Ak 1 tv) ?_
  refine swp_seq ?_
  refine swp_seq ?_
  refine zR [1,5,6,7] [0] (Ak 1 tv) ?_
  refine swp_block ?_
  refine zL (Hint.ann (h43a f) [(1,AV.ptr 0 [])] [(0,OB.cells 26 (cFrm f))] 10088) (zE hE [] [(0,.same 0)] [] [0] (An (An (An (zr (some (Src.same 0))) (zr nilP)) (An (o2 hpre y1) (An (An (cb (o3 hpre y1)) (zr nilN)) (An (An (ci (o4 hpre y1)) (zr nilN)) tv)))) (An (An (An (zr (OB.cells 26 (cFrm f))) (zr true)) tv) (An (zr true) (zr true))))) (o5 hpre y1) (fun (x2:Nat) hx2 => ?_)
  refine swp_seq ?_
  refine swp_seq ?_
  refine zR [1,5,6,7,19] [0] (Ak 5 tv) ?_
  refine zI (decide ((x2:Int)<=(↑(f.pieces.length):Int))) (fun y3 => ?_) (fun y3 => ?_)
  ·refine swp_skip ?_
   refine swp_seq ?_
   refine swp_block ?_
   refine swp_seq ?_
   refine zC ([(4,CallSpec.eq (c43l f x2) [false,true,true])]) [1,5,6,7,8] [0] (Ak 4 (An (An (An (zr 0) (An (zr (iv (x2:Int))) (An (zr (iv (↑(f.pieces.length):Int))) tv))) (An (t103 ([]) (x2) f.pieces.length) (An (An (o6 hpre y1 x2 hx2 y3) (An (o7 hpre y1 x2 hx2 y3) (An (o8 hpre y1 x2 hx2 y3) (o9 hpre y1 x2 hx2 y3)))) (Ak 1 (fun (i4:Env)=>tv))))) (Ak 1 tv))) ?_
   refine swp_seq ?_
   refine zR [1,5,6,7,8,9] [0] (Ak 1 tv) ?_
   refine swp_block ?_
   refine zL (Hint.ann (h43b f x2) [(1,AV.ptr 0 []),(7,iv (x2:Int)),(8,aIntss (combF [] x2 f.pieces.length))] [(0,OB.cells 26 (cFrm f))] 20184) (zE hE [] [(0,.same 0)] [7,8,5,6] [0] (An (An (An (zr (some (Src.same 0))) (zr nilP)) (An (An (zr (iv (x2:Int))) (zr true)) (An (An (zr (aIntss (combF [] x2 f.pieces.length))) (zr true)) (An (An (zr (aInts (outB (refIn f x2 0)))) (zr true)) (An (An (zr (bv (Option.isSome (refIn f x2 0)))) (zr true)) (An (An (ci (o10 hpre y1 x2 hx2 y3)) (zr nilN)) tv)))))) (An (An (An (zr (OB.cells 26 (cFrm f))) (zr true)) tv) (An (zr true) (zr true))))) (o11 hpre y1 x2 hx2 y3) (fun (x5:Nat) hx5 => ?_)
   refine swp_seq ?_
   refine swp_seq ?_
   refine zR [1,7,8,5,6,9,30] [0] (Ak 4 tv) ?_
   refine zI (decide ((x5:Int) < (↑((combF [] x2 f.pieces.length).length):Int))) (fun y6 => ?_) (fun y6 => ?_)
   ·refine swp_skip ?_
    refine swp_seq ?_
    refine swp_block ?_
    refine swp_seq ?_
    refine zC ([(8,CallSpec.eq (c43a f x2 x5) [true,false]),(11,CallSpec.eq (c43b f x2 x5) [true,false]),(20,CallSpec.eq (c43c f x2 x5) [true,false])]) [1,7,8,5,6,9,54] [0] (Ak 3 (An (fun (y7:(!!Option.isSome (refIn f x2 x5))=true)=>(An (Ak 1 tv) tv)) (An (fun (y8:(!!Option.isSome (refIn f x2 x5))=true)=>(An (Ak 1 tv) tv)) (An (fun (y9:(!!Option.isSome (refIn f x2 x5))=true)=>(An (Ak 1 tv) tv)) (An (fun (y10:(!!Option.isSome (refIn f x2 x5))=true)=>(An (An (fun (y11:(!!Option.isSome (refIn f x2 x5))=true)=>y10) (An (fun (y12:(!!Option.isSome (refIn f x2 x5))=true)=>y10) tv)) (An (o12 hpre y1 x2 hx2 y3 x5 hx5 y6 y10) (o13 hpre y1 x2 hx2 y3 x5 hx5 y6 y10)))) (An (fun (y13:(!!Option.isSome (refIn f x2 x5))=true)=>(An (An (fun (y14:(!!Option.isSome (refIn f x2 x5))=true)=>y13) tv) tv)) (An (fun (y15:(!!Option.isSome (refIn f x2 x5))=true)=>(An (Ak 1 (An (fun (y16:(!!Option.isSome (refIn f x2 x5))=true)=>y15) (An (fun (y17:(!!Option.isSome (refIn f x2 x5))=true)=>y15) tv))) (An (An (zr (AV.agg (cFrm f))) (An (An (zr 1) (An (o14 hpre y1 x2 hx2 y3 x5 hx5 y6 y15) (fun (i18:Nat)=>(fun (y19:i18 < ((combP x2 0 f.pieces.length).getD x5 []).length)=>(o15 hpre y1 x2 hx2 y3 x5 hx5 y6 y15 i18 y19))))) tv)) (An (t52 (f) ((combP x2 0 f.pieces.length).getD x5 [])) (An (An (o16 hpre y1 x2 hx2 y3 x5 hx5 y6 y15) (o17 hpre y1 x2 hx2 y3 x5 hx5 y6 y15)) (Ak 1 (fun (i20:Env)=>tv))))))) (An (fun (y21:(!!Option.isSome (refIn f x2 x5))=true)=>(An (Ak 1 tv) tv)) (An (fun (y22:(!!Option.isSome (refIn f x2 x5))=true)=>(An (Ak 1 tv) tv)) (An (fun (y23:(!!Option.isSome (refIn f x2 x5))=true)=>(An (Ak 1 (An (fun (y24:(!!Option.isSome (refIn f x2 x5))=true)=>y23) (An (fun (y25:(!!Option.isSome (refIn f x2 x5))=true)=>y23) tv))) (An (An (zr (AV.agg (cFrm f))) (An (An (zr 1) (An (zr (outB (refIn f x2 x5)).length) (fun (i26:Nat)=>(fun (y27:i26 < (outB (refIn f x2 x5)).length)=>(zr ([iv ((outB (refIn f x2 x5)).getD i26 0)])))))) tv)) (An (t52 (f) (outB (refIn f x2 x5))) (An (An (o18 hpre y1 x2 hx2 y3 x5 hx5 y6 y23) (o19 hpre y1 x2 hx2 y3 x5 hx5 y6 y23)) (Ak 1 (fun (i28:Env)=>tv))))))) (An (fun (y29:(!!Option.isSome (refIn f x2 x5))=true)=>(An (An (fun (y30:(!!Option.isSome (refIn f x2 x5))=true)=>y29) (An (fun (y31:(!!Option.isSome (refIn f x2 x5))=true)=>y29) tv)) tv)) (An (An (fun (y32:(!Option.isSome (refIn f x2 x5))=true)=>tv) (fun (y33:(!Option.isSome (refIn f x2 x5))=false)=>(o20 hpre y1 x2 hx2 y3 x5 hx5 y6 y33))) (Ak 1 (An (fun (y34:(bif !Option.isSome (refIn f x2 x5) then true else decide (penceP f ((combP x2 0 f.pieces.length).getD x5 []) < penceP f (outB (refIn f x2 x5))))=true)=>(An (Ak 1 tv) tv)) (An (fun (y35:(bif !Option.isSome (refIn f x2 x5) then true else decide (penceP f ((combP x2 0 f.pieces.length).getD x5 []) < penceP f (outB (refIn f x2 x5))))=true)=>(An (Ak 1 tv) tv)) (An (fun (y36:(bif !Option.isSome (refIn f x2 x5) then true else decide (penceP f ((combP x2 0 f.pieces.length).getD x5 []) < penceP f (outB (refIn f x2 x5))))=true)=>(An (Ak 1 tv) tv)) (An (fun (y37:(bif !Option.isSome (refIn f x2 x5) then true else decide (penceP f ((combP x2 0 f.pieces.length).getD x5 []) < penceP f (outB (refIn f x2 x5))))=true)=>(An (An (fun (y38:(bif !Option.isSome (refIn f x2 x5) then true else decide (penceP f ((combP x2 0 f.pieces.length).getD x5 []) < penceP f (outB (refIn f x2 x5))))=true)=>y37) (An (fun (y39:(bif !Option.isSome (refIn f x2 x5) then true else decide (penceP f ((combP x2 0 f.pieces.length).getD x5 []) < penceP f (outB (refIn f x2 x5))))=true)=>y37) tv)) (An (o21 hpre y1 x2 hx2 y3 x5 hx5 y6 y37) (o22 hpre y1 x2 hx2 y3 x5 hx5 y6 y37)))) (An (fun (y40:(bif !Option.isSome (refIn f x2 x5) then true else decide (penceP f ((combP x2 0 f.pieces.length).getD x5 []) < penceP f (outB (refIn f x2 x5))))=true)=>(An (An (fun (y41:(bif !Option.isSome (refIn f x2 x5) then true else decide (penceP f ((combP x2 0 f.pieces.length).getD x5 []) < penceP f (outB (refIn f x2 x5))))=true)=>y40) tv) tv)) (An (fun (y42:(bif !Option.isSome (refIn f x2 x5) then true else decide (penceP f ((combP x2 0 f.pieces.length).getD x5 []) < penceP f (outB (refIn f x2 x5))))=true)=>(An (Ak 1 (An (fun (y43:(bif !Option.isSome (refIn f x2 x5) then true else decide (penceP f ((combP x2 0 f.pieces.length).getD x5 []) < penceP f (outB (refIn f x2 x5))))=true)=>y42) (An (fun (y44:(bif !Option.isSome (refIn f x2 x5) then true else decide (penceP f ((combP x2 0 f.pieces.length).getD x5 []) < penceP f (outB (refIn f x2 x5))))=true)=>y42) tv))) (An (An (zr (AV.agg (cFrm f))) (An (An (zr 1) (An (o23 hpre y1 x2 hx2 y3 x5 hx5 y6 y42) (fun (i45:Nat)=>(fun (y46:i45 < ((combP x2 0 f.pieces.length).getD x5 []).length)=>(o24 hpre y1 x2 hx2 y3 x5 hx5 y6 y42 i45 y46))))) tv)) (An (t53 (f) ((combP x2 0 f.pieces.length).getD x5 [])) (An (An (o25 hpre y1 x2 hx2 y3 x5 hx5 y6 y42) (An (o26 hpre y1 x2 hx2 y3 x5 hx5 y6 y42) (o27 hpre y1 x2 hx2 y3 x5 hx5 y6 y42))) (Ak 1 (fun (i47:Env)=>tv))))))) (An (An (fun (y48:(bif !Option.isSome (refIn f x2 x5) then true else decide (penceP f ((combP x2 0 f.pieces.length).getD x5 []) < penceP f (outB (refIn f x2 x5))))=true)=>y48) (fun (y49:(bif !Option.isSome (refIn f x2 x5) then true else decide (penceP f ((combP x2 0 f.pieces.length).getD x5 []) < penceP f (outB (refIn f x2 x5))))=false)=>tv)) tv)))))))))))))))))))) ?_
    refine zI (bif bif !Option.isSome (refIn f x2 x5) then true else decide (penceP f ((combP x2 0 f.pieces.length).getD x5 []) < penceP f (outB (refIn f x2 x5))) then canP f ((combP x2 0 f.pieces.length).getD x5 []) else false) (fun y50 => ?_) (fun y50 => ?_)
    ·refine zR [1,7,8,5,6,9] [0] (Ak 2 (An (An (o28 hpre y1 x2 hx2 y3 x5 hx5 y6 y50) (o29 hpre y1 x2 hx2 y3 x5 hx5 y6 y50)) (Ak 3 tv))) ?_
     refine zR [1,7,8,5,6,9] [0] (Ak 1 (An (o30 hpre y1 x2 hx2 y3 x5 hx5 y6 y50) (Ak 1 tv))) ?_
     exact zn (zE hE [] [(0,.same 0)] [7,8] [0] (An (An (An (zr (some (Src.same 0))) (zr nilP)) (An (An (zr (iv (x2:Int))) (zr true)) (An (An (zr (aIntss (combF [] x2 f.pieces.length))) (zr true)) (An (An (zr 1) (An (o31 hpre y1 x2 hx2 y3 x5 hx5 y6 y50) (fun (i51:Nat)=>(fun (y52:i51 < (outB (refIn f x2 (x5 + 1))).length)=>(o32 hpre y1 x2 hx2 y3 x5 hx5 y6 y50 i51 y52))))) (An (An (cb (o33 hpre y1 x2 hx2 y3 x5 hx5 y6 y50)) (zr nilN)) (An (An (ci (o34 hpre y1 x2 hx2 y3 x5 hx5 y6 y50)) (zr nilN)) tv)))))) (An (An (An (zr (OB.cells 26 (cFrm f))) (zr true)) tv) (An (zr true) (zr true))))) (o35 hpre y1 x2 hx2 y3 x5 hx5 y6 y50) (o36 hpre y1 x2 hx2 y3 x5 hx5 y6 y50)
    ·refine swp_skip ?_
     refine zR [1,7,8,5,6,9] [0] (Ak 1 (An (o37 hpre y1 x2 hx2 y3 x5 hx5 y6 y50) (Ak 1 tv))) ?_
     exact zn (zE hE [] [(0,.same 0)] [7,8] [0] (An (An (An (zr (some (Src.same 0))) (zr nilP)) (An (An (zr (iv (x2:Int))) (zr true)) (An (An (zr (aIntss (combF [] x2 f.pieces.length))) (zr true)) (An (An (zr 1) (An (o38 hpre y1 x2 hx2 y3 x5 hx5 y6 y50) (fun (i53:Nat)=>(fun (y54:i53 < (outB (refIn f x2 (x5 + 1))).length)=>(o39 hpre y1 x2 hx2 y3 x5 hx5 y6 y50 i53 y54))))) (An (An (cb (o40 hpre y1 x2 hx2 y3 x5 hx5 y6 y50)) (zr nilN)) (An (An (ci (o41 hpre y1 x2 hx2 y3 x5 hx5 y6 y50)) (zr nilN)) tv)))))) (An (An (An (zr (OB.cells 26 (cFrm f))) (zr true)) tv) (An (zr true) (zr true))))) (o42 hpre y1 x2 hx2 y3 x5 hx5 y6 y50) (o43 hpre y1 x2 hx2 y3 x5 hx5 y6 y50)
   ·refine swp_exit ?_
    refine zR [1,7,5,6] [0] (Ak 1 (An (o44 hpre y1 x2 hx2 y3 x5 hx5 y6) (Ak 1 tv))) ?_
    exact zn (zE hE [] [(0,.same 0)] [] [0] (An (An (An (zr (some (Src.same 0))) (zr nilP)) (An (An (zr 1) (An (o45 hpre y1 x2 hx2 y3 x5 hx5 y6) (fun (i55:Nat)=>(fun (y56:i55 < (outB (refIn f (x2 + 1) 0)).length)=>(o46 hpre y1 x2 hx2 y3 x5 hx5 y6 i55 y56))))) (An (An (cb (o47 hpre y1 x2 hx2 y3 x5 hx5 y6)) (zr nilN)) (An (An (ci (o48 hpre y1 x2 hx2 y3 x5 hx5 y6)) (zr nilN)) tv)))) (An (An (An (zr (OB.cells 26 (cFrm f))) (zr true)) tv) (An (zr true) (zr true))))) (o49 hpre y1 x2 hx2 y3 x5 hx5 y6) (o50 hpre y1 x2 hx2 y3 x5 hx5 y6)
  ·refine swp_exit ?_
   refine swp_seq ?_
   refine swp_seq ?_
   refine zR [5,60] [] (Ak 2 tv) ?_
   refine zI (!Option.isSome (refIn f x2 0)) (fun y57 => ?_) (fun y57 => ?_)
   ·refine swp_seq ?_
    refine zR [2,3] [] (Ak 2 tv) ?_
    refine swp_ret ?_
    exact zT [] (An (Ak 2 tv) (An (An (o51 hpre y1 x2 hx2 y3 y57) (An (An (ci (o52 hpre y1 x2 hx2 y3 y57)) (zr nilN)) tv)) (An (zr true) (An (zr true) (zr true)))))
   ·refine swp_skip ?_
    refine swp_seq ?_
    refine zR [2,3] [] (Ak 3 tv) ?_
    refine swp_ret ?_
    exact zT [] (An (Ak 2 tv) (An (An (An (zr 1) (An (o53 hpre y1 x2 hx2 y3 y57) (fun (i58:Nat)=>(fun (y59:i58 < (refuseL f).length)=>(o54 hpre y1 x2 hx2 y3 y57 i58 y59))))) (An (An (ci (o55 hpre y1 x2 hx2 y3 y57)) (zr nilN)) tv)) (An (zr true) (An (zr true) (zr true)))))
theorem t43 (f:Frm):Triple Try.prog 43 (s43 f):=by
  apply w43
  all_goals (rintro ⟨hp,hpr⟩; intro h)
  case o0=>have e:=chk_bad h; unfold refuseL; rw [e]; rfl
  case o1=>have e:=chk_bad h; unfold refuseE checkF; rw [e]; rfl
  all_goals (have e1:=chk_ok h; have hs:=sound_of e1; have hn:=hs.pieces)
  case o2 | o3 | o4=>rfl
  case o5=>omega
  all_goals (intro x hx hx2; simp only [decide_eq_true_eq,decide_eq_false_iff_not] at hx2)
  case o51 | o52 | o53 | o54 | o55 =>
    have hxe:x=f.pieces.length + 1:=by omega
    subst hxe
    obtain ⟨r1,r2⟩:=ref_end e1
    rw [r1]
    intro hh
    first
    | (unfold refuseL; rw [if_pos e1]; cases e:refP f with
        | none=>rfl
        | some y=>rw [e] at hh; cases hh)
    | (unfold refuseE; rw [if_pos e1]; cases e:refP f with
        | none=>rfl
        | some y=>rw [e] at hh; cases hh)
    | (rw [r2]; done)
    | (intro i hi; rw [r2]; done)
    | (unfold refuseE; rw [if_pos e1]; cases e:refP f with
        | some y=>rfl
        | none=>rw [e] at hh; cases hh)
  case o6=>exact Nat.zero_le _
  case o7=>omega
  case o8=>exact hn
  case o9=>exact ris_nil _
  case o10=>rfl
  case o11=>exact Nat.zero_le _
  all_goals (have hlen:=combP_len hn x 0; have h6:6 ^ x<=6 ^ 6:=Nat.pow_le_pow_right (by omega) (by omega))
  all_goals (have h66:(6:Nat) ^ 6=46656:=by decide)
  all_goals (intro y hy hy2; rw [combF_nil] at hy2; simp only [decide_eq_true_eq,decide_eq_false_iff_not] at hy2)
  all_goals (try rw [combF_nil])
  case o44 | o48 | o49 | o50=>first | omega | (simp only [inI]; omega)
  case o45=>rw [refIn_end (by omega)]
  case o46=>intro i hi; rw [refIn_end (by omega)]
  case o47=>rw [refIn_end (by omega)]
  all_goals (intro hz)
  case o12 | o13=>omega
  case o14=>rfl
  case o15=>intro i hi; rfl
  case o16 | o18=>exact hs
  case o17=>exact comb_good hs
  case o19=>exact refIn_good hs
  case o20=>rw [hz]; rfl
  case o21 | o22=>omega
  case o23=>rfl
  case o24=>intro i hi; rfl
  case o25=>exact hs
  case o26=>exact hpr e1
  case o27=>have:=(comb_good (m:=x) (i:=y) hs).1; simp only [big]; omega
  case o31=>rw [refIn_succ (by omega),step_t hz]; rfl
  case o32=>intro i hi; rw [refIn_succ (by omega),step_t hz]; rfl
  case o33=>rw [refIn_succ (by omega),step_t hz]; rfl
  case o38=>rw [refIn_succ (by omega),step_f hz]
  case o39=>intro i hi; rw [refIn_succ (by omega),step_f hz]
  case o40=>rw [refIn_succ (by omega),step_f hz]
  all_goals (first | omega | (simp only [inI]; omega))
theorem w45 (f:Frm)
  (o0:fitsF f/\(okFrm f=true->prodF f f.strips.length<=30)->okFrm f=true->prodF f f.strips.length<=30)
  (o1:fitsF f/\(okFrm f=true->prodF f f.strips.length<=30)->(!decide (refuseE f=0))=true->0=lostN f)
  (o2:fitsF f/\(okFrm f=true->prodF f f.strips.length<=30)->(!decide (refuseE f=0))=false->Sound f)
  (o3:fitsF f/\(okFrm f=true->prodF f f.strips.length<=30)->(!decide (refuseE f=0))=false->goodL f (refuseL f))
  (o4:fitsF f/\(okFrm f=true->prodF f f.strips.length<=30)->(!decide (refuseE f=0))=false->penceP f (refuseL f)=lostN f)
  (o5:fitsF f/\(okFrm f=true->prodF f f.strips.length<=30)->(!decide (refuseE f=0))=false->0=refuseE f) :
  Triple Try.prog 45 (s45 f):=by
 refine triple_of Try.func45 rfl Try.call45 T0_ok _ rfl rfl rfl rfl (Nat.le_of_ble_eq_true (by kernel_rfl)) (fun _ _ _ _ h=>h) ?_
 intro hpre C hC _ hE
 obtain ⟨P,w0,E0,av,hA,ro,df⟩:=C
 obtain ⟨rfl,rfl,rfl⟩:=hC
 refine swp_seq ?_
 refine zR [1] [0] (Ak 3 tv) ?_
 refine swp_seq ?_
 refine zC ([(1,CallSpec.eq (s43 f) [true])]) [1,4,5] [0] (Ak 1 (An (An (An (zr (AV.agg (cFrm f))) tv) (An (t43 (f)) (An (An hpre.1 (fun (y0:okFrm f=true)=>(o0 hpre y0))) (Ak 1 (fun (i1:Env)=>tv))))) (Ak 5 tv))) ?_
 refine swp_seq ?_
 refine swp_seq ?_
 refine zR [1,4,5,12] [0] (Ak 2 tv) ?_
 refine zI (!decide (refuseE f=0)) (fun y2 => ?_) (fun y2 => ?_)
 ·refine swp_seq ?_
  refine zR [2,3] [] (Ak 3 tv) ?_
  refine swp_ret ?_
  exact zT [] (An (Ak 2 tv) (An (An (An (ci (o1 hpre y2)) (zr nilN)) (An (An (zr (iv (refuseE f))) (zr nilN)) tv)) (An (zr true) (An (zr true) (zr true)))))
 ·refine swp_skip ?_
  refine swp_seq ?_
  refine zC ([(2,CallSpec.eq (s52 f (refuseL f)) [true,true])]) [2,3] [] (Ak 2 (An (An (An (zr (AV.agg (cFrm f))) (An (zr (aInts (refuseL f))) tv)) (An (t52 (f) (refuseL f)) (An (An (o2 hpre y2) (o3 hpre y2)) (Ak 1 (fun (i3:Env)=>tv))))) (Ak 2 tv))) ?_
  refine swp_ret ?_
  exact zT [] (An (Ak 2 tv) (An (An (An (ci (o4 hpre y2)) (zr nilN)) (An (An (ci (o5 hpre y2)) (zr nilN)) tv)) (An (zr true) (An (zr true) (zr true)))))
theorem t45 (f:Frm):Triple Try.prog 45 (s45 f):=by
 apply w45
 all_goals (rintro ⟨hp,hpr⟩)
 case o0=>exact hpr
 all_goals (intro h)
 case o1 =>
  simp only [Bool.not_eq_true',decide_eq_false_iff_not] at h
  unfold refuseE at h
  unfold lostN
  cases e1:okFrm f with
  | false=>rfl
  | true =>
   rw [e1] at h
   cases e:refP f with
   | none=>rfl
   | some x=>rw [e] at h; exact absurd rfl h
 all_goals (simp only [Bool.not_eq_false',decide_eq_true_eq] at h; have e1:=refuse_ok h; have hs:=sound_of e1; have hl:=refuse_lay h)
 case o2=>exact hs
 case o3=>exact ris_good hs hl.1
 case o4=>exact hl.2.1
 case o5=>exact h.symm
end Go.Ab
namespace Go.Sh
structure Nar where
 piece:Int
 lo:Int
 hi:Int
 one:Int
 other:Int
end Go.Sh
namespace Go.En
open Go Go.Ab Go.Sh
end Go.En
namespace Go.Ab
open Go Go.RowKit Go.Proofs Go.Sh Go.En
def e5 (f:Frm) (c:Int) (set:List Int):List (Nat × OB):=[(112,.cells 26 (cFrm f))]
end Go.Ab
namespace Go.Ab
open Go Go.RowKit Go.Proofs Go.Sh Go.En
theorem huge_small {f:Frm} (h:hugeF f=false):smallF f:=by
 unfold hugeF at h
 simp only [Bool.or_eq_false_iff,decide_eq_false_iff_not,List.any_eq_false] at h
 obtain ⟨⟨⟨h1,h2⟩,h3⟩,h4⟩:=h
 refine ⟨by omega,by omega,by omega,fun i => ?_⟩
 by_cases hi:i < f.columns.length
 ·have:=h4 _ (getD_mem f.columns [] hi)
  simp only [decide_eq_true_eq] at this
  show (f.columns.getD i []).length<=64
  omega
 ·have:col f i = []:=getD_ge _ _ (by omega)
  rw [this]; exact Nat.zero_le _
end Go.Ab
namespace Go.Sh
open Go.Ab
variable {f:Frm}
theorem far_prod (h:farF f=false) (h2:okFrm f=true):prodF f f.strips.length<=30:=by
 unfold farF at h
 rw [h2] at h
 simp only [Bool.or_eq_false_iff,Bool.true_and,decide_eq_false_iff_not] at h
 omega
theorem refuseL_len (f:Frm):(refuseL f).length<=6:=by
 unfold refuseL
 cases h:okFrm f with
 | false=>exact Nat.zero_le _
 | true =>
  rw [if_pos rfl]
  cases e:refP f with
  | none=>exact Nat.zero_le _
  | some x=>exact (ref_ok (sound_of h) _ x e).2.2
end Go.Sh
namespace Go.Ab
open Go Go.RowKit Go.Proofs Go.Sh Go.En
def s6 (f:Frm):CallSpec:={ args:=[vFrm f],res:=bv true,pre:=fitsF f }
def c6 (f:Frm) (id:Nat):CallSpec:=s31o f id
def e6 (f:Frm):List (Nat × OB):=[(48,.cells 26 (cFrm f))]
end Go.Ab
namespace Go.Ab
open Go Go.RowKit Go.Proofs Go.Sh Go.En
theorem w6 (f:Frm)
  (o0:fitsF f->farF f=false->smallF f)
  (o1:fitsF f->farF f=false->smallF f)
  (o2:fitsF f->farF f=false->okFrm f=true->prodF f f.strips.length<=30)
  (o3:fitsF f->farF f=false->smallF f)
  (o4:fitsF f->farF f=false->okFrm f=true->prodF f f.strips.length<=30)
  (o5:fitsF f->farF f=false->(refuseL f).length<=big)
  (o6:fitsF f->farF f=false->(bif bif bif sameInts (refuseL f) (refuseL f) then decide (refuseE f=refuseE f) else false then decide (lostN f=lostN f) else false then decide (refuseE f=refuseE f) else false)=true->smallF f)
  (o7:fitsF f->farF f=false->(bif bif bif bif bif sameInts (refuseL f) (refuseL f) then decide (refuseE f=refuseE f) else false then decide (lostN f=lostN f) else false then decide (refuseE f=refuseE f) else false then true else false then true else false)=true) :
  Triple Try.prog 6 (s6 f):=by
 refine triple_of Try.func6 rfl Try.call6 T0_ok _ rfl rfl rfl rfl (Nat.le_of_ble_eq_true (by kernel_rfl)) (fun _ _ _ _ h=>h) ?_
 intro hpre C hC _ hE
 obtain ⟨P,w0,E0,av,hA,ro,df⟩:=C
 obtain ⟨rfl,rfl,rfl⟩:=hC
 refine swp_seq ?_
 refine zR [1] [0] (Ak 2 tv) ?_
 refine swp_seq ?_
 refine swp_seq ?_
 refine zC ([(1,CallSpec.eq (s41 f) [true])]) [1,13] [0] (Ak 1 (An (An (An (zr (AV.agg (cFrm f))) tv) (An (t41 (f)) (An hpre (Ak 1 (fun (i0:Env)=>tv))))) tv)) ?_
 refine zI (farF f) (fun y1 => ?_) (fun y1 => ?_)
 ·refine swp_seq ?_
  refine zC ([(0,CallSpec.eq s20 [])]) [2] [] (An (Ak 1 (An (t20) (Ak 2 (fun (i2:Env)=>tv)))) (Ak 1 tv)) ?_
  refine swp_ret ?_
  exact zT [] (An (Ak 1 tv) (An (An (zr (bv true)) (zr nilN)) (An (zr true) (An (zr true) (zr true)))))
 ·refine swp_skip ?_
  refine swp_seq ?_
  refine zC ([(1,CallSpec.eq (c6 f 40) [true])]) [1,3] [0,48,40,41,42] (Ak 1 (An (An (An (zr (AV.agg (cFrm f))) tv) (An (t31o (f) (40)) (An (o0 hpre y1) (Ak 1 (fun (i3:Env)=>tv))))) (Ak 2 tv))) ?_
  refine swp_seq ?_
  refine swp_ent (zE (st2:=ASt.mk [(1,AV.ptr 0 []),(3,AV.ptr 48 [])] [(48,OB.cells 26 (cFrm f)),(0,OB.cells 26 (cFrm f))] 64) hE [40,41,42] [(0,.same 0),(48,.same 48)] [] [0] (An (An (An (zr (some (Src.same 0))) (zr nilP)) (An (An (zr (some (Src.same 48))) (zr nilP)) tv)) (An (An (An (zr 26) (An (An (An (zr (iv f.length)) (zr nilN)) (An (An (zr (iv f.slack)) (zr nilN)) (An (An (zr 2) (An (zr f.strips.length) (fun (i4:Nat)=>(fun (y5:i4 < f.strips.length)=>(zr (cStrip (stp f i4))))))) (An (An (zr 3) (An (zr f.pieces.length) (fun (i6:Nat)=>(fun (y7:i6 < f.pieces.length)=>(zr (cPiece (pc f i6))))))) (An (An (zr 1) (An (zr f.columns.length) (fun (i8:Nat)=>(fun (y9:i8 < f.columns.length)=>(zr ([aInts (col f i8)])))))) tv))))) (zr true))) (An (An (zr (OB.cells 26 (cFrm f))) (zr true)) tv)) (An (zr true) (zr true))))) ?_
  refine zC ([(1,CallSpec.eq (s42 f) [true])]) [1,3,4,5] [0,48] (Ak 1 (An (An (An (zr (AV.agg (cFrm f))) tv) (An (t42 (f)) (An (o1 hpre y1) (Ak 1 (fun (i10:Env)=>tv))))) (Ak 5 tv))) ?_
  refine swp_seq ?_
  refine zC ([(1,CallSpec.eq (s43 f) [true])]) [1,3,4,5,6,7] [0,48] (Ak 1 (An (An (An (zr (AV.agg (cFrm f))) tv) (An (t43 (f)) (An (An hpre (fun (y11:okFrm f=true)=>(o2 hpre y1 y11))) (Ak 1 (fun (i12:Env)=>tv))))) (Ak 5 tv))) ?_
  refine swp_seq ?_
  refine zC ([(1,CallSpec.eq (s44 f) [true])]) [1,3,4,5,6,7,8,9] [0,48] (Ak 1 (An (An (An (zr (AV.agg (cFrm f))) tv) (An (t44 (f)) (An (o3 hpre y1) (Ak 1 (fun (i13:Env)=>tv))))) (Ak 5 tv))) ?_
  refine swp_seq ?_
  refine zC ([(1,CallSpec.eq (s45 f) [true])]) [1,3,4,5,6,7,8,9,10,11] [0,48] (Ak 1 (An (An (An (zr (AV.agg (cFrm f))) tv) (An (t45 (f)) (An (An hpre (fun (y14:okFrm f=true)=>(o4 hpre y1 y14))) (Ak 1 (fun (i15:Env)=>tv))))) (Ak 5 tv))) ?_
  refine swp_seq ?_
  refine zC ([(2,CallSpec.eq (s40 (refuseL f) (refuseL f)) [true,true]),(21,CallSpec.eq (s39 f) [true,true]),(24,CallSpec.eq s20 [])]) [2] [] (Ak 2 (An (An (An (zr (aInts (refuseL f))) (An (zr (aInts (refuseL f))) tv)) (An (t40 (refuseL f) (refuseL f)) (An (o5 hpre y1) (Ak 1 (fun (i16:Env)=>tv))))) (Ak 1 (An (fun (y17:sameInts (refuseL f) (refuseL f)=true)=>(An (Ak 1 tv) tv)) (An (fun (y18:sameInts (refuseL f) (refuseL f)=true)=>(An (Ak 1 tv) tv)) (An (fun (y19:sameInts (refuseL f) (refuseL f)=true)=>(An (An (fun (y20:sameInts (refuseL f) (refuseL f)=true)=>y19) (An (fun (y21:sameInts (refuseL f) (refuseL f)=true)=>y19) tv)) tv)) (An (An (fun (y22:sameInts (refuseL f) (refuseL f)=true)=>y22) (fun (y23:sameInts (refuseL f) (refuseL f)=false)=>tv)) (Ak 1 (An (fun (y24:(bif sameInts (refuseL f) (refuseL f) then decide (refuseE f=refuseE f) else false)=true)=>(An (Ak 1 tv) tv)) (An (fun (y25:(bif sameInts (refuseL f) (refuseL f) then decide (refuseE f=refuseE f) else false)=true)=>(An (Ak 1 tv) tv)) (An (fun (y26:(bif sameInts (refuseL f) (refuseL f) then decide (refuseE f=refuseE f) else false)=true)=>(An (An (fun (y27:(bif sameInts (refuseL f) (refuseL f) then decide (refuseE f=refuseE f) else false)=true)=>y26) (An (fun (y28:(bif sameInts (refuseL f) (refuseL f) then decide (refuseE f=refuseE f) else false)=true)=>y26) tv)) tv)) (An (An (fun (y29:(bif sameInts (refuseL f) (refuseL f) then decide (refuseE f=refuseE f) else false)=true)=>y29) (fun (y30:(bif sameInts (refuseL f) (refuseL f) then decide (refuseE f=refuseE f) else false)=false)=>tv)) (Ak 1 (An (fun (y31:(bif bif sameInts (refuseL f) (refuseL f) then decide (refuseE f=refuseE f) else false then decide (lostN f=lostN f) else false)=true)=>(An (Ak 1 tv) tv)) (An (fun (y32:(bif bif sameInts (refuseL f) (refuseL f) then decide (refuseE f=refuseE f) else false then decide (lostN f=lostN f) else false)=true)=>(An (Ak 1 tv) tv)) (An (fun (y33:(bif bif sameInts (refuseL f) (refuseL f) then decide (refuseE f=refuseE f) else false then decide (lostN f=lostN f) else false)=true)=>(An (An (fun (y34:(bif bif sameInts (refuseL f) (refuseL f) then decide (refuseE f=refuseE f) else false then decide (lostN f=lostN f) else false)=true)=>y33) (An (fun (y35:(bif bif sameInts (refuseL f) (refuseL f) then decide (refuseE f=refuseE f) else false then decide (lostN f=lostN f) else false)=true)=>y33) tv)) tv)) (An (An (fun (y36:(bif bif sameInts (refuseL f) (refuseL f) then decide (refuseE f=refuseE f) else false then decide (lostN f=lostN f) else false)=true)=>y36) (fun (y37:(bif bif sameInts (refuseL f) (refuseL f) then decide (refuseE f=refuseE f) else false then decide (lostN f=lostN f) else false)=false)=>tv)) (Ak 1 (An (fun (y38:(bif bif bif sameInts (refuseL f) (refuseL f) then decide (refuseE f=refuseE f) else false then decide (lostN f=lostN f) else false then decide (refuseE f=refuseE f) else false)=true)=>(An (Ak 1 tv) tv)) (An (fun (y39:(bif bif bif sameInts (refuseL f) (refuseL f) then decide (refuseE f=refuseE f) else false then decide (lostN f=lostN f) else false then decide (refuseE f=refuseE f) else false)=true)=>(An (Ak 1 tv) tv)) (An (fun (y40:(bif bif bif sameInts (refuseL f) (refuseL f) then decide (refuseE f=refuseE f) else false then decide (lostN f=lostN f) else false then decide (refuseE f=refuseE f) else false)=true)=>(An (Ak 1 (An (fun (y41:(bif bif bif sameInts (refuseL f) (refuseL f) then decide (refuseE f=refuseE f) else false then decide (lostN f=lostN f) else false then decide (refuseE f=refuseE f) else false)=true)=>y40) (An (fun (y42:(bif bif bif sameInts (refuseL f) (refuseL f) then decide (refuseE f=refuseE f) else false then decide (lostN f=lostN f) else false then decide (refuseE f=refuseE f) else false)=true)=>y40) tv))) (An (An (zr (AV.agg (cFrm f))) (An (zr (AV.agg (cFrm f))) tv)) (An (t39 (f)) (An (o6 hpre y1 y40) (Ak 1 (fun (i43:Env)=>tv))))))) (An (An (fun (y44:(bif bif bif sameInts (refuseL f) (refuseL f) then decide (refuseE f=refuseE f) else false then decide (lostN f=lostN f) else false then decide (refuseE f=refuseE f) else false)=true)=>y44) (fun (y45:(bif bif bif sameInts (refuseL f) (refuseL f) then decide (refuseE f=refuseE f) else false then decide (lostN f=lostN f) else false then decide (refuseE f=refuseE f) else false)=false)=>tv)) (Ak 1 (An (fun (y46:(bif bif bif bif sameInts (refuseL f) (refuseL f) then decide (refuseE f=refuseE f) else false then decide (lostN f=lostN f) else false then decide (refuseE f=refuseE f) else false then true else false)=true)=>(An (Ak 1 tv) (Ak 1 (An (t20) (Ak 2 (fun (i47:Env)=>tv)))))) (An (An (fun (y48:(bif bif bif bif sameInts (refuseL f) (refuseL f) then decide (refuseE f=refuseE f) else false then decide (lostN f=lostN f) else false then decide (refuseE f=refuseE f) else false then true else false)=true)=>y48) (fun (y49:(bif bif bif bif sameInts (refuseL f) (refuseL f) then decide (refuseE f=refuseE f) else false then decide (lostN f=lostN f) else false then decide (refuseE f=refuseE f) else false then true else false)=false)=>tv)) (Ak 1 tv)))))))))))))))))))))))))) ?_
  refine swp_ret ?_
  exact zT [] (An (Ak 1 tv) (An (An (cb (o7 hpre y1)) (zr nilN)) (An (zr true) (An (zr true) (zr true)))))
theorem far_small {f:Frm} (h:farF f=false):smallF f:=by
 unfold farF at h
 rw [Bool.or_eq_false_iff] at h
 exact huge_small h.1
theorem t6 (f:Frm):Triple Try.prog 6 (s6 f):=by
 apply w6
 all_goals (intro hp h; have hsm:=far_small h)
 all_goals (try (first | exact hsm | (exact fun e=>far_prod h e) | ((repeat intro _); exact hsm)))
 case o5=>have:=refuseL_len f; simp only [big]; omega
 all_goals (simp only [same_self,decide_true,cond_true])
end Go.Ab
namespace Go.Ab
open Go Go.RowKit
def Dec (P:Program) (t:TypeId) {α:Type} (c:α->List AV) (ok:α->Prop):Prop :=
 ∀ {H:Type} (enc:TypeId × Value->H) (w:World) (E:Env) (fuel:Nat) (cs:List Value) (d:DataW H) (ps:List MemPlace),
  (∀ b,E.M b=w.heap[b]?)->DataW.trod enc P w 0 (fun _=>true) true fuel t cs=some (d,ps)->(∀ n ∈ d.weights P t,n<=reachBytes) -> ∃ a,ok a /\ ∀ o,RelL E o (c a) cs
theorem mcell_of {E:Env} {w:World} (h:∀ b,E.M b=w.heap[b]?) {a:Addr} {v:Value} (hc:w.cell? a=some v):a.spot=none/\mcell E.M a.block a.off=some v:=by
 refine ⟨World.cell?_spot hc,?_⟩
 have hs:=World.cell?_spot hc
 unfold World.cell? at hc
 unfold mcell
 rw [h]
 split at hc
 ·rename_i c t fr e
  rw [hs] at hc
  rw [e]
  simpa using hc
 ·cases hc
theorem lit_wf {n:Int} (h:(Lit.int .i64 n).wf=true) : -9223372036854775808<=n/\n<=9223372036854775807:=by
 simpa [Lit.wf,IntKind.min,IntKind.max,IntKind.signed,IntKind.bits] using h
theorem dec_int {P:Program} {t:TypeId} (ht:P.underlying t=some (.int .i64)):Dec P t (fun n=>[iv n]) (fun n => -9223372036854775808<=n/\n<=9223372036854775807):=by
 intro H enc w E fuel cs d ps _ h _
 obtain ⟨n,rfl,_,hw⟩:=DataW.trod_int ht h
 exact ⟨n,lit_wf hw,fun o => .cons (.lit _) rfl .nil⟩
theorem weightsAll_mem {H:Type} {P:Program} {e:TypeId}:∀ {l:List (DataW H)} {d:DataW H},d ∈ l -> ∀ n ∈ d.weights P e,n ∈ DataW.weightsAll P e l:=by
 intro l
 induction l with
 | nil=>intro d h; cases h
 | cons x l ih =>
  intro d h n hn
  rw [DataW.weightsAll,List.mem_append]
  rcases List.mem_cons.1 h with rfl | h
  ·exact .inl hn
  ·exact .inr (ih h n hn)
theorem dec_slice {P:Program} {t e:TypeId} {α:Type} [Inhabited α] {c:α->List AV} {ok:α->Prop} (ht:P.underlying t=some (.slice e)) {sz:Nat} (hsz:P.cellsOf e=sz) (hpos:0 < sz) (hby:0 < P.bytesOf e) (he:Dec P e c ok) :
  Dec P t (fun l:List α=>[.sl sz l.length (fun i=>c (l.getD i default))]) (fun l=>l.length<=140737488355328 /\ ∀ a,a ∈ l->ok a):=by
 intro H enc w E fuel cs d ps hE h hw
 rcases Deep.open_slice ht h with ⟨rfl,hx⟩ | ⟨a,len,cap,m,n,D,Pl,rfl,hb,hl,hm,hmm,hx,hall⟩
 ·refine ⟨[],⟨Nat.zero_le _,fun a ha=>by cases ha⟩,fun o => ?_⟩
  exact .cons (.slN _ _) rfl .nil
 ·simp only [if_true] at hmm
  subst hmm
  rw [hsz] at hall
  obtain ⟨rfl,rfl⟩:=Prod.mk.inj hx
  have hwt:∀ i,i < len -> ∀ k ∈ (D i).weights P e,k<=reachBytes:=by
   intro i hi k hk
   refine hw k ?_
   rw [DataW.weights,ht]
   refine List.mem_cons_of_mem _ (List.mem_append_left _ (weightsAll_mem (d:=D i) ?_ k hk))
   exact List.mem_map.2 ⟨i,List.mem_range.2 hi,rfl⟩
  have hlen:len<=140737488355328:=by
   have h1:(((List.range len).map D).length + ((List.range (m - len)).map fun j=>D (len + j)).length) * P.bytesOf e<=reachBytes:=by
    refine hw _ ?_
    rw [DataW.weights,ht]
    exact List.mem_cons_self ..
   simp only [List.length_map,List.length_range] at h1
   have h2:len<=(len + (m - len)) * P.bytesOf e:=Nat.le_trans (Nat.le_add_right _ _) (Nat.le_mul_of_pos_right _ hby)
   have h3:=reachBytes_lt
   omega
  obtain ⟨g,hg⟩:=Deep.choose_lt (α:=List Value) (p:=fun i cs'=>w.cells? 0 (a.add (i * sz)) sz=some cs'/\DataW.trod enc P w 0 (fun _=>true) true n e cs'=some (D i,Pl i)) hall
  have hdec:∀ i,i < len -> ∃ x,ok x /\ ∀ o,RelL E o (c x) (g i):=fun i hi=>he enc w E n (g i) (D i) (Pl i) hE (hg i (by omega)).2 (hwt i hi)
  obtain ⟨A,hA⟩:=Deep.choose_lt (α:=α) (p:=fun i x=>ok x /\ ∀ o,RelL E o (c x) (g i)) hdec
  refine ⟨(List.range len).map A,⟨by simpa using hlen,fun x hx => ?_⟩,fun o => .cons ?_ rfl .nil⟩
  ·obtain ⟨i,hi,rfl⟩:=List.mem_map.1 hx
   exact (hA i (List.mem_range.1 hi)).1
  ·rw [List.length_map,List.length_range]
   have hcell:∀ i k,i < m->k < sz -> ∃ v,(g i)[k]? = some v/\w.cell? ((a.add (i * sz)).add k)=some v:=by
    intro i k hi hk
    obtain ⟨_,hl1,hl2⟩:=World.cells?_some (hg i hi).1
    have:=hl2 k hk
    obtain ⟨v,hv⟩:∃ v,(g i)[k]? = some v:=⟨_,List.getElem?_eq_getElem (by omega)⟩
    exact ⟨v,hv,by rw [this,hv]⟩
   by_cases h0:m=0
   ·subst h0
    obtain rfl:len=0:=by omega
    exact .slZ _ _ _
   ·obtain ⟨v,_,hv⟩:=hcell 0 0 (by omega) hpos
    have hsp:=(mcell_of hE hv).1
    obtain ⟨b,off,spot⟩:=a
    obtain rfl:spot=none:=by simpa [Addr.add] using hsp
    refine .slA sz len _ b off m g hl hm (fun i hi => ?_) (fun i k hi hk => ?_) (fun i hi => ?_)
    ·exact (World.cells?_some (hg i (by omega)).1).2.1
    ·obtain ⟨v,hv1,hv2⟩:=hcell i k (by omega) hk
     rw [hv1]
     have:=(mcell_of hE hv2).2
     rw [addr_add,addr_add] at this
     exact this
    ·have:((List.range len).map A).getD i default=A i:=by
      rw [List.getD_eq_getElem?_getD,List.getElem?_map,List.getElem?_range hi]; rfl
     rw [this]
     exact (hA i hi).2 false
def DecFs (P:Program) (off fin:Nat) (fs:List Field) {α:Type} (c:α->List AV) (ok:α->Prop):Prop :=
 ∀ {H:Type} (enc:TypeId × Value->H) (w:World) (E:Env) (n:Nat) (cs:List Value) (xs:List (DataW H × List MemPlace)),
  (∀ b,E.M b=w.heap[b]?)->cs.length=fin->xs.length=fs.length->(∀ (i:Nat) (f:Field),fs[i]? = some f->DataW.trod enc P w 0 (fun _=>true) true n f.type ((cs.drop f.offset).take (P.cellsOf f.type))=xs[i]?) →
  (∀ k ∈ DataW.weightsEach P (fs.map (·.type)) (xs.map (·.1)),k<=reachBytes) -> ∃ a,ok a /\ ∀ o,RelL E o (c a) (cs.drop off)
theorem decFs_nil {P:Program} {fin:Nat}:DecFs P fin fin [] (fun _:Unit=>[]) (fun _=>True):=by
 intro H enc w E n cs xs _ hl _ _ _
 refine ⟨(),trivial,fun o => ?_⟩
 rw [List.drop_of_length_le (by omega)]
 exact .nil
theorem decFs_cons {P:Program} {off mid fin:Nat} {f:Field} {fs:List Field} {α β:Type} {c1:α->List AV} {ok1:α->Prop} {c2:β->List AV} {ok2:β->Prop} {t:TypeId} (hft:f.type=t) (ho:f.offset=off) (hm:off + P.cellsOf t=mid)
  (h1:Dec P t c1 ok1) (h2:DecFs P mid fin fs c2 ok2):DecFs P off fin (f :: fs) (fun p:α × β=>c1 p.1 ++ c2 p.2) (fun p=>ok1 p.1/\ok2 p.2):=by
 intro H enc w E n cs xs hE hl hx hall hw
 subst hft; subst ho; subst hm
 cases xs with
 | nil=>simp at hx
 | cons x xs =>
  have h0:=hall 0 f rfl
  simp only [List.getElem?_cons_zero] at h0
  obtain ⟨a,ha,hra⟩:=h1 enc w E n _ x.1 x.2 hE h0 (fun k hk=>hw k (by
   simp only [List.map_cons,DataW.weightsEach]
   exact List.mem_append_left _ hk))
  obtain ⟨b,hb,hrb⟩:=h2 enc w E n cs xs hE hl (by simpa using hx) (fun i g hg=>by
   have:=hall (i + 1) g (by simpa using hg)
   simpa using this) (fun k hk=>hw k (by
   simp only [List.map_cons,DataW.weightsEach]
   exact List.mem_append_right _ hk))
  refine ⟨(a,b),⟨ha,hb⟩,fun o => ?_⟩
  have:=(hra o).append (hrb o)
  rw [← List.drop_drop,List.take_append_drop] at this
  exact this
theorem dec_struct {P:Program} {t:TypeId} {fs:Array Field} {sz:Nat} {α:Type} {c:α->List AV} {ok:α->Prop} (ht:P.underlying t=some (.struct fs)) (hsz:P.cellsOf t=sz) (h:DecFs P 0 sz fs.toList c ok):Dec P t c ok:=by
 intro H enc w E fuel cs d ps hE hd hw
 obtain ⟨xs,n,_,hx,hl,hxl,hall⟩:=DataW.trod_struct ht hd
 obtain ⟨rfl,rfl⟩:=Prod.mk.inj hx
 obtain ⟨a,ha,hr⟩:=h enc w E n cs xs hE (by omega) (by simpa using hxl) (fun i f hf=>hall i f (by simpa using hf)) (fun k hk=>hw k (by rw [DataW.weights,ht]; exact hk))
 exact ⟨a,ha,fun o=>by simpa using hr o⟩
theorem Dec.map {P:Program} {t:TypeId} {α β:Type} {c:α->List AV} {ok:α->Prop} {c':β->List AV} {ok':β->Prop} (h:Dec P t c ok) (g:α->β) (hc:∀ a,ok a->c' (g a)=c a) (hok:∀ a,ok a->ok' (g a)):Dec P t c' ok':=by
 intro H enc w E fuel cs d ps hE hd hw
 obtain ⟨a,ha,hr⟩:=h enc w E fuel cs d ps hE hd hw
 exact ⟨g a,hok a ha,fun o=>by rw [hc a ha]; exact hr o⟩
theorem Dec.arg {P:Program} {t:TypeId} {α:Type} {c:α->List AV} {ok:α->Prop} (h:Dec P t c ok) {H:Type} {enc:TypeId × Value->H} {w:World} {E:Env} (hE:∀ b,E.M b=w.heap[b]?) {v:Value} {d:DataW H} {ps:List MemPlace}
  (hd:DataW.Trod enc P w 0 (fun _=>true) true t v d ps) (hw:∀ n ∈ d.weights P t,n<=reachBytes):∃ a,ok a /\ ∀ o,RelL E o (c a) v.cells.toList:=by
 obtain ⟨fuel,hf⟩:=hd
 exact h enc w E fuel _ d ps hE hf hw
def envOf (w:World):Env:={ M:=fun b=>w.heap[b]?,blk:=fun _=>none,hdr:=fun _=>none,fns:=fun _ _=>False }
theorem heapOK_of (P:Program) (w:World):HeapOK (calleeCtx P (envOf w) w []) (envOf w) (Heap.of []) w where
 os:=rfl
 tape:=rfl
 output:=rfl
 size:=Nat.le_refl _
 pres:=fun _ _=>rfl
 mem:=fun _ _ h=>h
 le:=Env.le.refl _
 ext:=fun _ _ h => .inl h
 own:=fun id ob h=>by cases h
 sep:=fun i j k _ h=>absurd rfl h
theorem trodAll_below {H:Type} {enc:TypeId × Value->H} {P:Program} (hl:laidOutB P=true) {W W':World} (hb:Below W.heap.size W W'):∀ {ts:List TypeId} {vs:List Value} {ds:List (DataW H)} {ps:List MemPlace},
  (∀ t ∈ ts,P.readableRec t=true/\t < P.types.size)->DataW.TrodAll enc P W 0 (fun _=>true) true ts vs ds ps->(∀ x ∈ ps,x.block < W.heap.size) →
  DataW.TrodAll enc P W' 0 (fun b=>decide (b < W.heap.size)) true ts vs ds ps:=by
 intro ts
 induction ts with
 | nil =>
  intro vs ds ps _ h _
  obtain ⟨rfl,rfl,rfl⟩:=ChangeShapes.trodAll_nil h
  exact ChangeShapes.trodAll_mk0
 | cons t ts ih =>
  intro vs ds ps hr h hlt
  obtain ⟨v,vs',d,ds',p,q,rfl,rfl,rfl,hd,hrest⟩:=ChangeShapes.trodAll_cons h
  obtain ⟨h1,h2⟩:=hr t (List.mem_cons_self ..)
  exact ⟨p,q,Below.trod hl h1 h2 hd hb (fun x hx=>hlt x (List.mem_append_left _ hx)),ih (fun t ht=>hr t (List.mem_cons_of_mem _ ht)) hrest (fun x hx=>hlt x (List.mem_append_right _ hx)),rfl⟩
theorem law_contract {P:Program} (hl:laidOutB P=true) {f:FuncId} {fn:Func} {s:ChangeSpec} (hvars:s.vars = []) {tb:TypeId} (hres:fn.resultTypes = #[tb]) (htb:P.underlying tb=some .bool)
  (hread:∀ t ∈ fn.params.toList,P.readableRec t=true/\t < P.types.size)
  {H:Type} {enc:TypeId × Value->H} {W:World} {args:Array Value} {ds gs:List (DataW H)} {before:List MemPlace}
  (hfn:ds.length=fn.params.size->s.fn H ds = { results:=[.lit (.bool true)],args:=ds })
  (hW:DataW.Whole enc P fn.params.toList s.vars false W args.toList ds gs before) {sp:CallSpec} (ht:Triple P f sp) (hp:sp.pre) (hfo:∀ E,sp.fnok E) (hin:sp.hin = []) (hout:sp.hout = []) (hr:sp.res=bv true)
  (hla:args.toList.length=sp.args.length) (hra:∀ k,Rel (envOf W) true (sp.args.getD k .any) (args.toList.getD k undef)) :
  Calls P f args W fun e W' => ∃ v,e = .returned v/\s.post enc P fn false true false false W args v W':=by
 have hok:=heapOK_of P W
 have h:=ht.2 hp (envOf W) W args.toList (hfo _) (by rw [hin]; exact hok) hla hra
 refine (h (by rw [hout]; intro p hp; cases hp)).mono fun e W' hpost => ?_
 obtain ⟨v,E',he,hh,hv,_⟩:=hpost
 rw [hr] at hv
 have hvt:v = .bool true:=by cases hv; rfl
 subst hvt
 have hb:Below W.heap.size W W':=⟨hh.os,hh.tape,hh.output,hh.size,fun k hk=>hh.pres k (by
  rintro (hc | ⟨q,hq,_⟩)
  ·exact absurd hk (Nat.not_lt.2 hc)
  ·rw [hin] at hq; cases hq)⟩
 refine ⟨_,he,?_⟩
 have hW':=hW
 obtain ⟨p,q,hA,hV,rfl,hz,hnd⟩:=hW
 rw [hvars] at hV
 obtain ⟨rfl,rfl⟩:=ChangeShapes.trodVars_none hV
 have hlen:ds.length=fn.params.size:=by
  have:∀ {ts:List TypeId} {vs:List Value} {ds:List (DataW H)} {ps:List MemPlace},DataW.TrodAll enc P W 0 (fun _=>true) true ts vs ds ps->ds.length=ts.length:=by
   intro ts
   induction ts with
   | nil=>intro vs ds ps h; obtain ⟨_,rfl,_⟩:=ChangeShapes.trodAll_nil h; rfl
   | cons t ts ih=>intro vs ds ps h; obtain ⟨_,_,_,_,_,_,rfl,rfl,rfl,_,hr⟩:=ChangeShapes.trodAll_cons h; simp [ih hr]
  simpa using this hA
 refine ⟨ds,[],p ++ [],[],p,[],hW',?_,?_,?_,hb.frame _,fun h=>by cases h⟩
 ·rw [List.append_nil,hfn hlen,hres]
  exact ChangeShapes.trodAll_mk1 (shut_bool htb true)
 ·rw [List.append_nil,hfn hlen]
  exact trodAll_below hl hb hread hA (fun x hx=>hW'.lt x (List.mem_append_left _ hx))
 ·rw [List.append_nil,hfn hlen,hvars]
  rfl
end Go.Ab
namespace Go.Ab
open Go Go.RowKit Go.Proofs Go.Sh Go.En
theorem dInt:Dec Try.prog 3 (fun n=>[iv n]) (fun n => -9223372036854775808<=n/\n<=9223372036854775807):=dec_int Try.underlying3
theorem dInts:Dec Try.prog 27 (fun l:List Int=>[aInts l]) (fun l=>l.length<=140737488355328) :=
 Dec.map (dec_slice (α:=Int) Try.underlying27 (by kernel_rfl) (by decide) (Nat.lt_of_lt_of_eq (by decide:0 < 8) (by kernel_rfl)) dInt) id (fun _ _=>rfl) (fun _ h=>h.1)
set_option maxRecDepth 100000
theorem laidOut:laidOutB Try.prog=true:=by kernel_rfl
section
variable {H:Type} {enc:TypeId × Value->H} {W:World} {base:Nat} {v:Value} {d:DataW H} {ps:List MemPlace}
theorem arg_struct {t:TypeId} {fs:Array Field} {α:Type} {c:α->List AV} {ok:α->Prop} (ht:Try.prog.underlying t=some (.struct fs)) (hD:Dec Try.prog t c ok) (hval:Value.okWide Try.prog W .any base t v) (hd:DataW.Trod enc Try.prog W 0 (fun _=>true) true t v d ps) (hw:∀ n ∈ d.weights Try.prog t,n<=reachBytes) :
  ∃ a,ok a/\Rel (envOf W) true (.agg (c a)) v:=by
 unfold Value.okWide at hval
 rw [ht] at hval
 obtain ⟨cs,rfl,_⟩:=hval
 obtain ⟨a,ha,hr⟩:=hD.arg (E:=envOf W) (fun _=>rfl) hd hw
 refine ⟨a,ha,?_⟩
 have h:=Rel.agg (hr true)
 simpa [Value.cells] using h
end
theorem weights_part {H:Type} {ts:List TypeId} {ds:List (DataW H)} (h:(DataW.weightsEach Try.prog ts ds).all (· <= reachBytes)=true) {j:Nat} {t:TypeId} {d:DataW H} (ht:ts[j]? = some t) (hd:ds[j]? = some d):∀ n ∈ d.weights Try.prog t,n<=reachBytes:=by
 intro n hn
 have:=List.all_eq_true.1 h _ (DataW.weights_mem_each ht hd n hn)
 simpa using this
def ArgD (t:TypeId) (α:Type) (c:α->AV) (ok:α->Prop):Prop :=
 (Try.prog.readableRec t=true/\t < Try.prog.types.size) /\ ∀ {H:Type} {enc:TypeId × Value->H} {W:World} {base:Nat} {v:Value} {d:DataW H} {ps:List MemPlace},Value.okWide Try.prog W .any base t v->DataW.Trod enc Try.prog W 0 (fun _=>true) true t v d ps->(∀ n ∈ d.weights Try.prog t,n<=reachBytes) -> ∃ a,ok a/\Rel (envOf W) true (c a) v
abbrev i64 (n:Int):Prop := -9223372036854775808<=n/\n<=9223372036854775807
theorem argStruct {t:TypeId} {fs:Array Field} {α:Type} {c:α->List AV} {ok:α->Prop} (ht:Try.prog.underlying t=some (.struct fs)) (hr:Try.prog.readableRec t=true/\t < Try.prog.types.size) (hD:Dec Try.prog t c ok):ArgD t α (fun a => .agg (c a)) ok:=⟨hr,fun hv hd hw=>arg_struct ht hD hv hd hw⟩
theorem law_one {f:FuncId} {fn:Func} {s:ChangeSpec} {t1:TypeId} {α:Type} {c1:α->AV} {ok1:α->Prop} (h1:ArgD t1 α c1 ok1)
  (hps:fn.params = #[t1]) (hres:fn.resultTypes = #[4]) (hvars:s.vars = []) (hfn:∀ (H:Type) (d1:DataW H),s.fn H [d1] = { results:=[.lit (.bool true)],args:=[d1] })
  (sp:α->CallSpec) (ht:∀ r,Triple Try.prog f (sp r)) (hargs:∀ r,(sp r).args = [c1 r]) (hpre:∀ r,ok1 r->(sp r).pre)
  (hfo:∀ r E,(sp r).fnok E) (hin:∀ r,(sp r).hin = []) (hout:∀ r,(sp r).hout = []) (hr:∀ r,(sp r).res=bv true)
  {H:Type} {enc:TypeId × Value->H} {W:World} {base:Nat} {args:Array Value} {ds gs:List (DataW H)} {before:List MemPlace}
  (hval:∀ (j:Nat) t v,fn.params[j]? = some t->args[j]? = some v->Value.okWide Try.prog W .any base t v) (hW:DataW.Whole enc Try.prog fn.params.toList s.vars false W args.toList ds gs before)
  (hsz:(DataW.weightsEach Try.prog (fn.params.toList ++ s.plain.varTypes Try.prog) (ds ++ gs)).all (· <= reachBytes)=true) :
  Calls Try.prog f args W fun e W' => ∃ v,e = .returned v/\s.post enc Try.prog fn false true false false W args v W':=by
 have hW':=hW
 obtain ⟨p,q,hA,_,_,_,_⟩:=hW
 rw [hps] at hA hval hsz
 obtain ⟨v0,d0,rfl,rfl,g0⟩:=ChangeShapes.trodAll_one hA
 obtain ⟨r,hr0,r0⟩:=h1.2 (hval 0 t1 v0 rfl rfl) g0 (weights_part hsz (j:=0) rfl rfl)
 refine law_contract laidOut hvars hres Try.underlying4 (fun t htt => ?_) (fun _=>hfn H d0) hW' (ht r) (hpre r hr0) (hfo r) (hin r) (hout r) (hr r) (by rw [hargs]; rfl) (fun k => ?_)
 ·rw [hps] at htt
  have:t=t1:=by simpa using htt
  subst this
  exact h1.1
 ·rw [hargs]
  rcases k with _ | k
  ·exact r0
  ·exact .any _
end Go.Ab
namespace Go.Ab
open Go Go.RowKit Go.Proofs Go.Sh Go.En
set_option maxRecDepth 100000
theorem dSpan:Dec Try.prog 36 cSpan (fun _=>True) :=
 Dec.map (dec_struct Try.underlying36 (sz:=2) (by kernel_rfl) (decFs_cons (mid:=1) rfl rfl (by kernel_rfl) dInt (decFs_cons (mid:=2) rfl rfl (by kernel_rfl) dInt decFs_nil))) (fun p=>(⟨p.1,p.2.1⟩:Span)) (fun _ _=>rfl) (fun _ _=>trivial)
theorem dStrip:Dec Try.prog 65 cStrip (fun _=>True) :=
 Dec.map (dec_struct Try.underlying65 (sz:=2) (by kernel_rfl) (decFs_cons (mid:=1) rfl rfl (by kernel_rfl) dInt (decFs_cons (mid:=2) rfl rfl (by kernel_rfl) dInt decFs_nil))) (fun p=>(⟨p.1,p.2.1⟩:Strip)) (fun _ _=>rfl) (fun _ _=>trivial)
theorem dPiece:Dec Try.prog 46 cPiece (fun _=>True) :=
 Dec.map (dec_struct Try.underlying46 (sz:=3) (by kernel_rfl) (decFs_cons (mid:=2) rfl rfl (by kernel_rfl) dSpan (decFs_cons (mid:=3) rfl rfl (by kernel_rfl) dInt decFs_nil))) (fun p=>(⟨p.1.lo,p.1.hi,p.2.1⟩:Piece)) (fun _ _=>rfl) (fun _ _=>trivial)
theorem dStrips:Dec Try.prog 22 (fun l:List Strip=>[.sl 2 l.length (fun i=>cStrip (l.getD i default))]) (fun l=>l.length<=140737488355328 /\ ∀ m,m ∈ l->True) :=
 dec_slice (α:=Strip) Try.underlying22 (by kernel_rfl) (by decide) (Nat.lt_of_lt_of_eq (by decide:0 < 16) (by kernel_rfl)) dStrip
theorem dPieces:Dec Try.prog 23 (fun l:List Piece=>[.sl 3 l.length (fun i=>cPiece (l.getD i default))]) (fun l=>l.length<=140737488355328 /\ ∀ m,m ∈ l->True) :=
 dec_slice (α:=Piece) Try.underlying23 (by kernel_rfl) (by decide) (Nat.lt_of_lt_of_eq (by decide:0 < 24) (by kernel_rfl)) dPiece
theorem dIntss:Dec Try.prog 24 (fun l:List (List Int)=>[aIntss l]) (fun l=>l.length<=140737488355328 /\ ∀ m,m ∈ l->m.length<=140737488355328) :=
 dec_slice (α:=List Int) Try.underlying24 (by kernel_rfl) (by decide) (Nat.lt_of_lt_of_eq (by decide:0 < 24) (by kernel_rfl)) dInts
theorem dFrm:Dec Try.prog 26 cFrm fitsF:=by
 refine Dec.map (dec_struct Try.underlying26 (sz:=5) (by kernel_rfl) (decFs_cons (mid:=1) rfl rfl (by kernel_rfl) dInt (decFs_cons (mid:=2) rfl rfl (by kernel_rfl) dInt (decFs_cons (mid:=3) rfl rfl (by kernel_rfl) dStrips (decFs_cons (mid:=4) rfl rfl (by kernel_rfl) dPieces (decFs_cons (mid:=5) rfl rfl (by kernel_rfl) dIntss decFs_nil)))))) (fun p=>(⟨p.1,p.2.1,p.2.2.1,p.2.2.2.1,p.2.2.2.2.1⟩:Frm)) (fun _ _=>rfl) (fun p h => ?_)
 obtain ⟨_,_,⟨h1,_⟩,⟨h2,_⟩,⟨h3,h4⟩,_⟩:=h
 refine ⟨Nat.le_trans h1 (by decide),Nat.le_trans h2 (by decide),Nat.le_trans h3 (by decide),fun i => ?_⟩
 show (p.2.2.2.2.1.getD i []).length<=_
 by_cases hi:i < p.2.2.2.2.1.length
 ·exact Nat.le_trans (h4 _ (getD_mem _ [] hi)) (by decide)
 ·rw [getD_ge _ _ (by omega)]; exact Nat.zero_le _
theorem argFrm:ArgD 26 Frm (fun f=>vFrm f) fitsF:=argStruct Try.underlying26 ⟨by kernel_rfl,of_decide_eq_true (by kernel_rfl)⟩ dFrm
end Go.Ab
namespace Go.Proofs.Ytpnmalddfpjcoaa
open Go Go.Ab Go.Sh Go.En Go.RowKit
set_option maxRecDepth 100000
theorem own:ownKnob Try.prog.godebug=none:=by kernel_rfl
def nilArgs:Array Value := #[.agg #[.int .i64 0,.int .i64 0,.slice none 0 0,.slice none 0 0,.slice none 0 0]]
theorem lifted (os:Os) (started:os.Started) (H:Type) (enc:TypeId × Value->H) :
  ReturnsInHanded {} Try.checked os 6 .any (Rows.pagesRefuseSpec.pre6 enc Try.prog Try.f6 Rows.pagesRefuseRow.domain false) (Rows.pagesRefuseSpec.post enc Try.prog Try.f6 false true false false):=by
 refine returnsInHanded_of_change_sized (C:=Try.checked) own started (by kernel_rfl) Try.func6
  (ChangeSpec.witness6 (enc:=enc) (C:=Try.checked) false ⟨#[],nilArgs,[]⟩ 8 (by kernel_rfl) (by kernel_rfl) (by kernel_rfl) (by kernel_rfl)) ?_
 intro W base args ds gs before hval hW _ hsz _
 exact law_one argFrm rfl rfl rfl (fun _ _=>rfl) s6 t6 (fun _=>rfl) (fun _ h0=>h0) (fun _ _=>trivial) (fun _=>rfl) (fun _=>rfl) (fun _=>rfl) hval hW hsz
theorem proved:Rows.PagesRefuseSaid :=
 OpenClaim.holds_of_wide 6 Try.f6 rfl rfl rfl rfl rfl rfl rfl ⟨rfl,rfl,rfl,rfl,rfl⟩ rfl rfl rfl rfl rfl (by kernel_rfl) Try.func6 (by kernel_rfl)
  (of_decide_eq_true (by kernel_rfl)) (by unfold Func.isWrapper; first | (rw [if_pos (by decide +kernel)]; kernel_rfl) | (rw [if_neg (by decide +kernel)]; exact ⟨rfl,rfl⟩))
  (fun os started H enc _=>lifted os started H enc)
end Go.Proofs.Ytpnmalddfpjcoaa
