/- TopRefused returns true for every input, and leaves what it was handed as it was. No condition. -/
import Derived.Test.YtebodmfjbfiljaaGreatQTopRefused5
import Derived.Deep.Slices
import Derived.ChangeShapes
import Derived.Carry
import Derived.OpenShut
import Derived.SizedLaws
import Derived.Test.YtebodmfjbfiljaaGreatRows
import Derived.ProofKit
import Derived.JoinedOf
set_option linter.all false
set_option linter.deprecated false
namespace Go.Ab
open Go Go.RowKit Go.Proofs Go.Sh Go.En
theorem giv_ok {b:Book} {ls:List Int}:(!decide (Jam b ls true=0)) = !(JaR b && JcF b ls):=by
 unfold Jam JcZ; cases JaR b <;> cases JcF b ls <;> rfl
theorem giv_eq {b:Book} {ls:List Int} (h:(JaR b && JcF b ls)=true):Jam b ls true=0:=by
 unfold Jam JcZ; rw [Bool.and_eq_true] at h; rw [h.1,h.2]; rfl
abbrev q6z (b:Book) (ls:List Int) (d:Desk) (ws:List Int) (st:Best) (Pq:Prop):Prop:=SoundB b/\JaL b ls/\ws.length<=(stds b).length/\okDk ws.length d/\okSt st->Pq
abbrev q70 (b:Book) (ls:List Int) (d:Desk) (ws:List Int) (st:Best) (Pq:Prop):Prop:=q6z b ls d ws st ((bif decide (0<=st.2) then decide (st.2<=d.cost) else false)=false->Pq)
abbrev q71 (b:Book) (ls:List Int) (d:Desk) (ws:List Int) (st:Best) (Pq:Prop):Prop:=q70 b ls d ws st (decide ((↑(ws.length):Int)=(↑((stds b).length):Int))=false->Pq)
abbrev q72 (b:Book) (x17:Nat) (Pq:Prop):Prop:=x17<=b.ctrs.length + 1->Pq
abbrev q73 (b:Book) (x17:Nat) (Pq:Prop):Prop:=q72 b x17 (decide ((x17:Int) - 1 < (↑(b.ctrs.length):Int))=true->Pq)
abbrev q74 (b:Book) (ls:List Int) (d:Desk) (ws:List Int) (x17:Nat) (Pq:Prop):Prop:=q73 b x17 (Jbl b ls d (sdA b ws.length) ((x17:Int) - 1)=true->Pq)
abbrev q75 (b:Book) (ls:List Int) (d:Desk) (ws:List Int) (x17:Nat) (Pq:Prop):Prop:=q73 b x17 (Jbl b ls d (sdA b ws.length) ((x17:Int) - 1)=false->Pq)
abbrev q76 (b:Book) (x17:Nat) (Pq:Prop):Prop:=q72 b x17 (decide ((x17:Int) - 1 < (↑(b.ctrs.length):Int))=false->Pq)
theorem wio46 (b:Book) (ls:List Int) (d:Desk) (ws:List Int) (st:Best)
 (o0:q6z b ls d ws st ((bif decide (0<=st.2) then decide (st.2<=d.cost) else false)=true->st.2=(JaO b ls (Jae b ws) d ws st).2))
 (o1:q6z b ls d ws st ((bif decide (0<=st.2) then decide (st.2<=d.cost) else false)=true->st.1.length=(JaO b ls (Jae b ws) d ws st).1.length))
 (o2:q6z b ls d ws st ((bif decide (0<=st.2) then decide (st.2<=d.cost) else false)=true -> ∀ (i10:Nat),i10 < st.1.length -> [iv (st.1.getD i10 0)] = [iv ((JaO b ls (Jae b ws) d ws st).1.getD i10 0)]))
 (o3:q70 b ls d ws st (decide ((↑(ws.length):Int)=(↑((stds b).length):Int))=true->d.cost=(JaO b ls (Jae b ws) d ws st).2))
 (o4:q70 b ls d ws st (decide ((↑(ws.length):Int)=(↑((stds b).length):Int))=true->ws.length=(JaO b ls (Jae b ws) d ws st).1.length))
 (o5:q70 b ls d ws st (decide ((↑(ws.length):Int)=(↑((stds b).length):Int))=true -> ∀ (i13:Nat),i13 < ws.length -> [iv (ws.getD i13 0)] = [iv ((JaO b ls (Jae b ws) d ws st).1.getD i13 0)]))
 (o6:q71 b ls d ws st (-1=(↑0:Int) - 1))
 (o7:q71 b ls d ws st (st.2=(Jan b ls (Jae b ws - 1) d ws st 0).2))
 (o8:q71 b ls d ws st (st.1.length=(Jan b ls (Jae b ws - 1) d ws st 0).1.length))
 (o9:q71 b ls d ws st (∀ (i18:Nat),i18 < st.1.length -> [iv (st.1.getD i18 0)] = [iv ((Jan b ls (Jae b ws - 1) d ws st 0).1.getD i18 0)]))
 (o10:q71 b ls d ws st (0<=b.ctrs.length + 1))
 (o11:q71 b ls d ws st (∀ (x17:Nat),q73 b x17 (JaL b ls)))
 (o12:q71 b ls d ws st (∀ (x17:Nat),q73 b x17 (ws.length < (stds b).length)))
 (o13:q71 b ls d ws st (∀ (x17:Nat),q73 b x17 (okDk ws.length d)))
 (o14:q71 b ls d ws st (∀ (x17:Nat),q73 b x17 (ws.length<=10)))
 (o15:q71 b ls d ws st (∀ (x17:Nat),q74 b ls d ws x17 (ws.length + 1<=65536)))
 (o16:q71 b ls d ws st (∀ (x17:Nat),q74 b ls d ws x17 (Ja4 Tryz.prog 46 (c46r b ls d ws st x17 10358))))
 (o17:q71 b ls d ws st (∀ (x17:Nat),q74 b ls d ws x17 (JaL b ls)))
 (o18:q71 b ls d ws st (∀ (x17:Nat),q74 b ls d ws x17 ((ws ++ [(x17:Int) - 1]).length<=(stds b).length)))
 (o19:q71 b ls d ws st (∀ (x17:Nat),q74 b ls d ws x17 (okDk (ws ++ [(x17:Int) - 1]).length (Jb2 b ls d (sdA b ws.length) ((x17:Int) - 1)))))
 (o20:q71 b ls d ws st (∀ (x17:Nat),q74 b ls d ws x17 (okSt (Jan b ls (Jae b ws - 1) d ws st x17))))
 (o21:q71 b ls d ws st (∀ (x17:Nat),q74 b ls d ws x17 (some (OB.cells 3 [iv (Jan b ls (Jae b ws - 1) d ws st x17).2])=some (OB.cells 3 (List.map (fun (x:AV)=>match x with | AV.clo f cs=>AV.clo f (List.map (fun (x:AV)=>match x with | AV.vec b=>AV.vec (Decidable.rec (fun (h:¬0=b)=>Decidable.rec (fun (h:¬1=b)=>Decidable.rec (fun (h:¬2=b)=>Decidable.rec (fun (h:¬3=b)=>Decidable.rec (fun (h:¬4=b)=>Decidable.rec (fun (h:¬7=b)=>b) (fun (h:7=b)=>10358) (instDecidableEqNat 7 b)) (fun (h:4=b)=>6001) (instDecidableEqNat 4 b)) (fun (h:3=b)=>10358 - 8) (instDecidableEqNat 3 b)) (fun (h:2=b)=>2) (instDecidableEqNat 2 b)) (fun (h:1=b)=>1) (instDecidableEqNat 1 b)) (fun (h:0=b)=>0) (instDecidableEqNat 0 b)) | AV.ptr b p=>AV.ptr (Decidable.rec (fun (h:¬0=b)=>Decidable.rec (fun (h:¬1=b)=>Decidable.rec (fun (h:¬2=b)=>Decidable.rec (fun (h:¬3=b)=>Decidable.rec (fun (h:¬4=b)=>Decidable.rec (fun (h:¬7=b)=>b) (fun (h:7=b)=>10358) (instDecidableEqNat 7 b)) (fun (h:4=b)=>6001) (instDecidableEqNat 4 b)) (fun (h:3=b)=>10358 - 8) (instDecidableEqNat 3 b)) (fun (h:2=b)=>2) (instDecidableEqNat 2 b)) (fun (h:1=b)=>1) (instDecidableEqNat 1 b)) (fun (h:0=b)=>0) (instDecidableEqNat 0 b)) p | v=>v) cs) | v=>match v with | AV.vec b=>AV.vec (Decidable.rec (fun (h:¬0=b)=>Decidable.rec (fun (h:¬1=b)=>Decidable.rec (fun (h:¬2=b)=>Decidable.rec (fun (h:¬3=b)=>Decidable.rec (fun (h:¬4=b)=>Decidable.rec (fun (h:¬7=b)=>b) (fun (h:7=b)=>10358) (instDecidableEqNat 7 b)) (fun (h:4=b)=>6001) (instDecidableEqNat 4 b)) (fun (h:3=b)=>10358 - 8) (instDecidableEqNat 3 b)) (fun (h:2=b)=>2) (instDecidableEqNat 2 b)) (fun (h:1=b)=>1) (instDecidableEqNat 1 b)) (fun (h:0=b)=>0) (instDecidableEqNat 0 b)) | AV.ptr b p=>AV.ptr (Decidable.rec (fun (h:¬0=b)=>Decidable.rec (fun (h:¬1=b)=>Decidable.rec (fun (h:¬2=b)=>Decidable.rec (fun (h:¬3=b)=>Decidable.rec (fun (h:¬4=b)=>Decidable.rec (fun (h:¬7=b)=>b) (fun (h:7=b)=>10358) (instDecidableEqNat 7 b)) (fun (h:4=b)=>6001) (instDecidableEqNat 4 b)) (fun (h:3=b)=>10358 - 8) (instDecidableEqNat 3 b)) (fun (h:2=b)=>2) (instDecidableEqNat 2 b)) (fun (h:1=b)=>1) (instDecidableEqNat 1 b)) (fun (h:0=b)=>0) (instDecidableEqNat 0 b)) p | v=>v) [iv (Jan b ls (Jae b ws - 1) d ws st x17).2])))))
 (o22:q71 b ls d ws st (∀ (x17:Nat),q74 b ls d ws x17 (some (OB.cells 27 [AV.vec 6001])=some (OB.cells 27 (List.map (fun (x:AV)=>match x with | AV.clo f cs=>AV.clo f (List.map (fun (x:AV)=>match x with | AV.vec b=>AV.vec (Decidable.rec (fun (h:¬0=b)=>Decidable.rec (fun (h:¬1=b)=>Decidable.rec (fun (h:¬2=b)=>Decidable.rec (fun (h:¬3=b)=>Decidable.rec (fun (h:¬4=b)=>Decidable.rec (fun (h:¬7=b)=>b) (fun (h:7=b)=>10358) (instDecidableEqNat 7 b)) (fun (h:4=b)=>6001) (instDecidableEqNat 4 b)) (fun (h:3=b)=>10358 - 8) (instDecidableEqNat 3 b)) (fun (h:2=b)=>2) (instDecidableEqNat 2 b)) (fun (h:1=b)=>1) (instDecidableEqNat 1 b)) (fun (h:0=b)=>0) (instDecidableEqNat 0 b)) | AV.ptr b p=>AV.ptr (Decidable.rec (fun (h:¬0=b)=>Decidable.rec (fun (h:¬1=b)=>Decidable.rec (fun (h:¬2=b)=>Decidable.rec (fun (h:¬3=b)=>Decidable.rec (fun (h:¬4=b)=>Decidable.rec (fun (h:¬7=b)=>b) (fun (h:7=b)=>10358) (instDecidableEqNat 7 b)) (fun (h:4=b)=>6001) (instDecidableEqNat 4 b)) (fun (h:3=b)=>10358 - 8) (instDecidableEqNat 3 b)) (fun (h:2=b)=>2) (instDecidableEqNat 2 b)) (fun (h:1=b)=>1) (instDecidableEqNat 1 b)) (fun (h:0=b)=>0) (instDecidableEqNat 0 b)) p | v=>v) cs) | v=>match v with | AV.vec b=>AV.vec (Decidable.rec (fun (h:¬0=b)=>Decidable.rec (fun (h:¬1=b)=>Decidable.rec (fun (h:¬2=b)=>Decidable.rec (fun (h:¬3=b)=>Decidable.rec (fun (h:¬4=b)=>Decidable.rec (fun (h:¬7=b)=>b) (fun (h:7=b)=>10358) (instDecidableEqNat 7 b)) (fun (h:4=b)=>6001) (instDecidableEqNat 4 b)) (fun (h:3=b)=>10358 - 8) (instDecidableEqNat 3 b)) (fun (h:2=b)=>2) (instDecidableEqNat 2 b)) (fun (h:1=b)=>1) (instDecidableEqNat 1 b)) (fun (h:0=b)=>0) (instDecidableEqNat 0 b)) | AV.ptr b p=>AV.ptr (Decidable.rec (fun (h:¬0=b)=>Decidable.rec (fun (h:¬1=b)=>Decidable.rec (fun (h:¬2=b)=>Decidable.rec (fun (h:¬3=b)=>Decidable.rec (fun (h:¬4=b)=>Decidable.rec (fun (h:¬7=b)=>b) (fun (h:7=b)=>10358) (instDecidableEqNat 7 b)) (fun (h:4=b)=>6001) (instDecidableEqNat 4 b)) (fun (h:3=b)=>10358 - 8) (instDecidableEqNat 3 b)) (fun (h:2=b)=>2) (instDecidableEqNat 2 b)) (fun (h:1=b)=>1) (instDecidableEqNat 1 b)) (fun (h:0=b)=>0) (instDecidableEqNat 0 b)) p | v=>v) [AV.vec 4])))))
 (o23:q71 b ls d ws st (∀ (x17:Nat),q74 b ls d ws x17 (some (OB.cells 97 [AV.clo 46 [AV.ptr 0 [],AV.rp [AV.rp (cWk b)],AV.ptr 1 [],AV.ptr 2 []]])=some (OB.cells 97 (List.map (fun (x:AV)=>match x with | AV.clo f cs=>AV.clo f (List.map (fun (x:AV)=>match x with | AV.vec b=>AV.vec (Decidable.rec (fun (h:¬0=b)=>Decidable.rec (fun (h:¬1=b)=>Decidable.rec (fun (h:¬2=b)=>Decidable.rec (fun (h:¬3=b)=>Decidable.rec (fun (h:¬4=b)=>Decidable.rec (fun (h:¬7=b)=>b) (fun (h:7=b)=>10358) (instDecidableEqNat 7 b)) (fun (h:4=b)=>6001) (instDecidableEqNat 4 b)) (fun (h:3=b)=>10358 - 8) (instDecidableEqNat 3 b)) (fun (h:2=b)=>2) (instDecidableEqNat 2 b)) (fun (h:1=b)=>1) (instDecidableEqNat 1 b)) (fun (h:0=b)=>0) (instDecidableEqNat 0 b)) | AV.ptr b p=>AV.ptr (Decidable.rec (fun (h:¬0=b)=>Decidable.rec (fun (h:¬1=b)=>Decidable.rec (fun (h:¬2=b)=>Decidable.rec (fun (h:¬3=b)=>Decidable.rec (fun (h:¬4=b)=>Decidable.rec (fun (h:¬7=b)=>b) (fun (h:7=b)=>10358) (instDecidableEqNat 7 b)) (fun (h:4=b)=>6001) (instDecidableEqNat 4 b)) (fun (h:3=b)=>10358 - 8) (instDecidableEqNat 3 b)) (fun (h:2=b)=>2) (instDecidableEqNat 2 b)) (fun (h:1=b)=>1) (instDecidableEqNat 1 b)) (fun (h:0=b)=>0) (instDecidableEqNat 0 b)) p | v=>v) cs) | v=>match v with | AV.vec b=>AV.vec (Decidable.rec (fun (h:¬0=b)=>Decidable.rec (fun (h:¬1=b)=>Decidable.rec (fun (h:¬2=b)=>Decidable.rec (fun (h:¬3=b)=>Decidable.rec (fun (h:¬4=b)=>Decidable.rec (fun (h:¬7=b)=>b) (fun (h:7=b)=>10358) (instDecidableEqNat 7 b)) (fun (h:4=b)=>6001) (instDecidableEqNat 4 b)) (fun (h:3=b)=>10358 - 8) (instDecidableEqNat 3 b)) (fun (h:2=b)=>2) (instDecidableEqNat 2 b)) (fun (h:1=b)=>1) (instDecidableEqNat 1 b)) (fun (h:0=b)=>0) (instDecidableEqNat 0 b)) | AV.ptr b p=>AV.ptr (Decidable.rec (fun (h:¬0=b)=>Decidable.rec (fun (h:¬1=b)=>Decidable.rec (fun (h:¬2=b)=>Decidable.rec (fun (h:¬3=b)=>Decidable.rec (fun (h:¬4=b)=>Decidable.rec (fun (h:¬7=b)=>b) (fun (h:7=b)=>10358) (instDecidableEqNat 7 b)) (fun (h:4=b)=>6001) (instDecidableEqNat 4 b)) (fun (h:3=b)=>10358 - 8) (instDecidableEqNat 3 b)) (fun (h:2=b)=>2) (instDecidableEqNat 2 b)) (fun (h:1=b)=>1) (instDecidableEqNat 1 b)) (fun (h:0=b)=>0) (instDecidableEqNat 0 b)) p | v=>v) [AV.clo 46 [AV.ptr 0 [],AV.rp [vWk b],AV.ptr 1 [],AV.ptr 2 []]])))))
 (o24:q71 b ls d ws st (∀ (x17:Nat),q74 b ls d ws x17 (some (OB.vec 3 1 (ws.length + 1) (catF ws.length (fun (i:Nat)=>[iv (ws.getD i 0)]) fun (j:Nat)=>List.getD [[iv ((x17:Int) - 1)]] j [iv 0]))=some (OB.vec 3 1 (ws ++ [(x17:Int) - 1]).length fun (i:Nat)=>[iv ((ws ++ [(x17:Int) - 1]).getD i 0)]))))
 (o25:q71 b ls d ws st (∀ (x17:Nat),q74 b ls d ws x17 (inI ((x17:Int) - 1 + 1))))
 (o26:q71 b ls d ws st (∀ (x17:Nat),q74 b ls d ws x17 ((x17:Int) - 1 + 1=(↑(x17 + 1):Int) - 1)))
 (o27:q71 b ls d ws st (∀ (x17:Nat),q74 b ls d ws x17 ((JaO b ls (Jae b (ws ++ [(x17:Int) - 1])) (Jb2 b ls d (sdA b ws.length) ((x17:Int) - 1)) (ws ++ [(x17:Int) - 1]) (Jan b ls (Jae b ws - 1) d ws st x17)).2=(Jan b ls (Jae b ws - 1) d ws st (x17 + 1)).2)))
 (o28:q71 b ls d ws st (∀ (x17:Nat),q74 b ls d ws x17 ((JaO b ls (Jae b (ws ++ [(x17:Int) - 1])) (Jb2 b ls d (sdA b ws.length) ((x17:Int) - 1)) (ws ++ [(x17:Int) - 1]) (Jan b ls (Jae b ws - 1) d ws st x17)).1.length=(Jan b ls (Jae b ws - 1) d ws st (x17 + 1)).1.length)))
 (o29:q71 b ls d ws st (∀ (x17:Nat),q74 b ls d ws x17 (∀ (i24:Nat),i24 < (JaO b ls (Jae b (ws ++ [(x17:Int) - 1])) (Jb2 b ls d (sdA b ws.length) ((x17:Int) - 1)) (ws ++ [(x17:Int) - 1]) (Jan b ls (Jae b ws - 1) d ws st x17)).1.length -> [iv ((JaO b ls (Jae b (ws ++ [(x17:Int) - 1])) (Jb2 b ls d (sdA b ws.length) ((x17:Int) - 1)) (ws ++ [(x17:Int) - 1]) (Jan b ls (Jae b ws - 1) d ws st x17)).1.getD i24 0)] = [iv ((Jan b ls (Jae b ws - 1) d ws st (x17 + 1)).1.getD i24 0)])))
 (o30:q71 b ls d ws st (∀ (x17:Nat),q74 b ls d ws x17 (x17 + 1<=b.ctrs.length + 1)))
 (o31:q71 b ls d ws st (∀ (x17:Nat),q74 b ls d ws x17 (b.ctrs.length + 1 - (x17 + 1) < b.ctrs.length + 1 - x17)))
 (o32:q71 b ls d ws st (∀ (x17:Nat),q75 b ls d ws x17 (inI ((x17:Int) - 1 + 1))))
 (o33:q71 b ls d ws st (∀ (x17:Nat),q75 b ls d ws x17 ((x17:Int) - 1 + 1=(↑(x17 + 1):Int) - 1)))
 (o34:q71 b ls d ws st (∀ (x17:Nat),q75 b ls d ws x17 ((Jan b ls (Jae b ws - 1) d ws st x17).2=(Jan b ls (Jae b ws - 1) d ws st (x17 + 1)).2)))
 (o35:q71 b ls d ws st (∀ (x17:Nat),q75 b ls d ws x17 ((Jan b ls (Jae b ws - 1) d ws st x17).1.length=(Jan b ls (Jae b ws - 1) d ws st (x17 + 1)).1.length)))
 (o36:q71 b ls d ws st (∀ (x17:Nat),q75 b ls d ws x17 (∀ (i26:Nat),i26 < (Jan b ls (Jae b ws - 1) d ws st x17).1.length -> [iv ((Jan b ls (Jae b ws - 1) d ws st x17).1.getD i26 0)] = [iv ((Jan b ls (Jae b ws - 1) d ws st (x17 + 1)).1.getD i26 0)])))
 (o37:q71 b ls d ws st (∀ (x17:Nat),q75 b ls d ws x17 (x17 + 1<=b.ctrs.length + 1)))
 (o38:q71 b ls d ws st (∀ (x17:Nat),q75 b ls d ws x17 (b.ctrs.length + 1 - (x17 + 1) < b.ctrs.length + 1 - x17)))
 (o39:q71 b ls d ws st (∀ (x17:Nat),q76 b x17 ((Jan b ls (Jae b ws - 1) d ws st x17).2=(JaO b ls (Jae b ws) d ws st).2)))
 (o40:q71 b ls d ws st (∀ (x17:Nat),q76 b x17 ((Jan b ls (Jae b ws - 1) d ws st x17).1.length=(JaO b ls (Jae b ws) d ws st).1.length)))
 (o41:q71 b ls d ws st (∀ (x17:Nat),q76 b x17 (∀ (i28:Nat),i28 < (Jan b ls (Jae b ws - 1) d ws st x17).1.length -> [iv ((Jan b ls (Jae b ws - 1) d ws st x17).1.getD i28 0)] = [iv ((JaO b ls (Jae b ws) d ws st).1.getD i28 0)])))
  (l:List (Nat × Nat)) (hl:l.map (·.1) = [0,1,2,3,4,7]) (hnd:(l.map (·.2)).Nodup) :
  Ja4 Tryz.prog 46 (IoSpec.at (io46 b ls d ws st) l):=by
 refine JbU Tryz.func46 rfl Tryz.call46 Jaw (io46 b ls d ws st) 6 l (by rw [hl]; kernel_rfl) hnd (Nat.le_of_ble_eq_true (by kernel_rfl)) (fun _ _ _ _ h=>h) ?_
 intro hpre C hC _ hE
 obtain ⟨P,w0,E0,av,hA,ro,df⟩:=C
 obtain ⟨rfl,rfl,rfl⟩:=hC
 refine Ja0 ?_
 refine zR [1,2,3,4,5,6] [0,1,2,3,6,4] (Ak 1 tv) ?_
 refine Ja0 ?_
 refine Ja0 ?_
 refine zR [1,2,3,4,5,6,17] [0,1,2,3,6,4] (Ak 3 (An (fun (y0:decide (0<=st.2)=true)=>(An (Ak 1 tv) tv)) (An (fun (y1:decide (0<=st.2)=true)=>(An (An (fun (y2:decide (0<=st.2)=true)=>y1) tv) tv)) (An (fun (y3:decide (0<=st.2)=true)=>(An (Ak 1 tv) tv)) (An (fun (y4:decide (0<=st.2)=true)=>(An (An (fun (y5:decide (0<=st.2)=true)=>y4) (An (fun (y6:decide (0<=st.2)=true)=>y4) tv)) tv)) (An (An (fun (y7:decide (0<=st.2)=true)=>y7) (fun (y8:decide (0<=st.2)=false)=>tv)) tv)))))) ?_
 refine zI (bif decide (0<=st.2) then decide (st.2<=d.cost) else false) (fun y9 => ?_) (fun y9 => ?_)
 ·refine Ja5 ?_
  exact zO (ASt.mk [] [(0,OB.cells 3 [iv (JaO b ls (Jae b ws) d ws st).2]),(1,OB.cells 27 [AV.vec 7]),(2,OB.cells 97 [AV.clo 46 [AV.ptr 0 [],AV.rp [AV.rp (cWk b)],AV.ptr 1 [],AV.ptr 2 []]]),(7,OB.vec 3 1 (JaO b ls (Jae b ws) d ws st).1.length fun (i:Nat)=>[iv ((JaO b ls (Jae b ws) d ws st).1.getD i 0)])] 100) (zEn 6 hE [] [(0,.same 0),(1,.same 1),(7,.same 4),(2,.same 2)] [] [] (Ak 1 (An (An (An (zr 3) (An (An (An (ci (o0 hpre y9)) (zr nilN)) tv) (zr true))) (An (An (zr 27) (An (An (zr (some (Src.same 4))) tv) (zr true))) (An (An (zr 97) (An (An (An (zr 46) (An (An (zr (some (Src.same 0))) (zr nilP)) (An (An (zr (AV.rp [AV.rp (cWk b)])) (zr nilN)) (An (An (zr (some (Src.same 1))) (zr nilP)) (An (An (zr (some (Src.same 2))) (zr nilP)) tv))))) tv) (zr true))) (An (An (zr 3) (An (zr 1) (An (o1 hpre y9) (fun (i10:Nat)=>(fun (y11:i10 < st.1.length)=>(o2 hpre y9 i10 y11)))))) tv)))) (An (zr true) (zr true))))) (Ak 1 (An (zr (AV.tup [])) (An (zr (some (OB.cells 3 [iv (JaO b ls (Jae b ws) d ws st).2]))) (An (zr (some (OB.cells 27 [AV.vec 7]))) (An (zr (some (OB.cells 97 [AV.clo 46 [AV.ptr 0 [],AV.rp [AV.rp (cWk b)],AV.ptr 1 [],AV.ptr 2 []]]))) (An (zr (some (OB.vec 3 1 (JaO b ls (Jae b ws) d ws st).1.length fun (i:Nat)=>[iv ((JaO b ls (Jae b ws) d ws st).1.getD i 0)]))) tv))))))
 ·refine Ja3 ?_
  refine Ja0 ?_
  refine Ja0 ?_
  refine zR [1,2,3,4,5,6,25] [0,1,2,3,6,4] (Ak 8 tv) ?_
  refine zI (decide ((↑(ws.length):Int)=(↑((stds b).length):Int))) (fun y12 => ?_) (fun y12 => ?_)
  ·refine Ja0 ?_
   refine zR [] [0,1,2,3] (Ak 5 tv) ?_
   refine Ja5 ?_
   exact zO (ASt.mk [] [(0,OB.cells 3 [iv (JaO b ls (Jae b ws) d ws st).2]),(1,OB.cells 27 [AV.vec 7]),(2,OB.cells 97 [AV.clo 46 [AV.ptr 0 [],AV.rp [AV.rp (cWk b)],AV.ptr 1 [],AV.ptr 2 []]]),(7,OB.vec 3 1 (JaO b ls (Jae b ws) d ws st).1.length fun (i:Nat)=>[iv ((JaO b ls (Jae b ws) d ws st).1.getD i 0)])] 100) (zEn 6 hE [] [(0,.same 0),(1,.same 1),(7,.same 3),(2,.same 2)] [] [] (Ak 1 (An (An (An (zr 3) (An (An (An (ci (o3 hpre y9 y12)) (zr nilN)) tv) (zr true))) (An (An (zr 27) (An (An (zr (some (Src.same 3))) tv) (zr true))) (An (An (zr 97) (An (An (An (zr 46) (An (An (zr (some (Src.same 0))) (zr nilP)) (An (An (zr (AV.rp [AV.rp (cWk b)])) (zr nilN)) (An (An (zr (some (Src.same 1))) (zr nilP)) (An (An (zr (some (Src.same 2))) (zr nilP)) tv))))) tv) (zr true))) (An (An (zr 3) (An (zr 1) (An (o4 hpre y9 y12) (fun (i13:Nat)=>(fun (y14:i13 < ws.length)=>(o5 hpre y9 y12 i13 y14)))))) tv)))) (An (zr true) (zr true))))) (Ak 1 (An (zr (AV.tup [])) (An (zr (some (OB.cells 3 [iv (JaO b ls (Jae b ws) d ws st).2]))) (An (zr (some (OB.cells 27 [AV.vec 7]))) (An (zr (some (OB.cells 97 [AV.clo 46 [AV.ptr 0 [],AV.rp [AV.rp (cWk b)],AV.ptr 1 [],AV.ptr 2 []]]))) (An (zr (some (OB.vec 3 1 (JaO b ls (Jae b ws) d ws st).1.length fun (i:Nat)=>[iv ((JaO b ls (Jae b ws) d ws st).1.getD i 0)]))) tv))))))
  ·refine Ja3 ?_
   refine Ja0 ?_
   refine Jbi (zEn (st2:=ASt.mk [(1,AV.sl 1 ws.length fun (i:Nat)=>[iv (ws.getD i 0)]),(2,AV.ptr 0 []),(3,AV.rp [AV.rp (cWk b)]),(4,AV.ptr 1 []),(5,AV.ptr 2 []),(6,AV.ptr 6 []),(25,bv (decide ((↑(ws.length):Int)=(↑((stds b).length):Int))))] [(0,OB.cells 3 [iv st.2]),(1,OB.cells 27 [AV.vec 4]),(2,OB.cells 97 [AV.clo 46 [AV.ptr 0 [],AV.rp [AV.rp (cWk b)],AV.ptr 1 [],AV.ptr 2 []]]),(6,OB.cells 100 (cDk b ls d)),(4,OB.vec 3 1 st.1.length fun (i:Nat)=>[iv (st.1.getD i 0)])] 142) 6 hE [3] [(0,.same 0),(1,.same 1),(4,.same 4),(2,.same 2),(6,.same 6)] [3,25] [0,6,4] (An (An (An (zr 1) (An (zr ws.length) (fun (i15:Nat)=>(fun (y16:i15 < ws.length)=>(zr ([iv (ws.getD i15 0)])))))) (An (An (zr (some (Src.same 0))) (zr nilP)) (An (An (zr (AV.rp [AV.rp (cWk b)])) (zr true)) (An (An (zr (some (Src.same 1))) (zr nilP)) (An (An (zr (some (Src.same 2))) (zr nilP)) (An (An (zr (some (Src.same 6))) (zr nilP)) (An (An (zr (bv (decide ((↑(ws.length):Int)=(↑((stds b).length):Int))))) (zr true)) tv))))))) (An (An (An (zr (OB.cells 3 [iv st.2])) (zr true)) (An (An (zr 27) (An (An (zr (some (Src.same 4))) tv) (zr true))) (An (An (zr 97) (An (An (An (zr 46) (An (An (zr (some (Src.same 0))) (zr nilP)) (An (An (zr (AV.rp [AV.rp (cWk b)])) (zr nilN)) (An (An (zr (some (Src.same 1))) (zr nilP)) (An (An (zr (some (Src.same 2))) (zr nilP)) tv))))) tv) (zr true))) (An (An (zr (OB.cells 100 (cDk b ls d))) (zr true)) (An (An (zr (OB.vec 3 1 st.1.length fun (i:Nat)=>[iv (st.1.getD i 0)])) (zr true)) tv))))) (An (zr true) (zr true))))) ?_
   refine zR [1,3,5,6,8] [0,1,2,6,4] (Ak 1 tv) ?_
   refine Ja2 ?_
   refine zL (Hint.ann (h46 b ls d ws st) [(1,AV.sl 1 ws.length fun (i:Nat)=>[iv (ws.getD i 0)]),(3,AV.rp [AV.rp (cWk b)]),(5,AV.ptr 2 []),(6,AV.ptr 6 [])] [(2,OB.cells 97 [AV.clo 46 [AV.ptr 0 [],AV.rp [AV.rp (cWk b)],AV.ptr 1 [],AV.ptr 2 []]]),(6,OB.cells 100 (cDk b ls d))] 10150) (zEn 6 hE [] [(0,.same 0),(1,.same 1),(6001,.same 4),(2,.same 2),(6,.same 6)] [1,3] [6] (An (An (An (zr (AV.sl 1 ws.length fun (i:Nat)=>[iv (ws.getD i 0)])) (zr true)) (An (An (zr (AV.rp [AV.rp (cWk b)])) (zr true)) (An (An (zr (some (Src.same 2))) (zr nilP)) (An (An (zr (some (Src.same 6))) (zr nilP)) (An (An (ci (o6 hpre y9 y12)) (zr nilN)) tv))))) (An (An (An (zr 97) (An (An (An (zr 46) (An (An (zr (some (Src.same 0))) (zr nilP)) (An (An (zr (AV.rp [AV.rp (cWk b)])) (zr nilN)) (An (An (zr (some (Src.same 1))) (zr nilP)) (An (An (zr (some (Src.same 2))) (zr nilP)) tv))))) tv) (zr true))) (An (An (zr (OB.cells 100 (cDk b ls d))) (zr true)) (An (An (zr 3) (An (An (An (ci (o7 hpre y9 y12)) (zr nilN)) tv) (zr true))) (An (An (zr 27) (An (An (zr (some (Src.same 4))) tv) (zr true))) (An (An (zr 3) (An (zr 1) (An (o8 hpre y9 y12) (fun (i18:Nat)=>(fun (y19:i18 < st.1.length)=>(o9 hpre y9 y12 i18 y19)))))) tv))))) (An (zr true) (zr true))))) (o10 hpre y9 y12) (fun (x17:Nat) hx17 => ?_)
   refine Ja0 ?_
   refine Ja0 ?_
   refine zR [1,3,5,6,8,36] [0,1,2,6,6001] (Ak 8 tv) ?_
   refine zI (decide ((x17:Int) - 1 < (↑(b.ctrs.length):Int))) (fun y20 => ?_) (fun y20 => ?_)
   ·refine Ja3 ?_
    refine Ja0 ?_
    refine Ja2 ?_
    refine Ja0 ?_
    refine zR [1,3,5,6,8,9] [0,1,2,6,10222,6001] (Ak 3 tv) ?_
    refine Ja0 ?_
    refine zC ([(3,CallSpec.eq (c46b b ls d ws st x17) [true,true,true])]) [1,3,5,6,8,9,43] [0,1,2,6,10222,6001] (Ak 3 (An (An (An (zr (AV.ptr 10222 [])) (An (zr (iv (↑(ws.length):Int))) (An (zr (iv ((x17:Int) - 1))) tv))) (An (t47 (10222) (b) (ls) (d) ws.length ((x17:Int) - 1) ws.length) (An (An hpre.1 (An (o11 hpre y9 y12 x17 hx17 y20) (An (o12 hpre y9 y12 x17 hx17 y20) (An (o13 hpre y9 y12 x17 hx17 y20) (o14 hpre y9 y12 x17 hx17 y20))))) (An (An (zr (some (OB.cells 100 (cDk b ls d)))) tv) (fun (i21:Env)=>tv))))) tv)) ?_
    refine zI (Jbl b ls d (sdA b ws.length) ((x17:Int) - 1)) (fun y22 => ?_) (fun y22 => ?_)
    ·refine zC ([(11,CallSpec.eq (c46r b ls d ws st x17 10358) [true,true,true,true,true,true])]) [1,3,5,6,8] [0,1,2,6,10358] (Ak 7 (An (An (zr ((↑(ws.length):Int))) (zr ((↑(ws.length):Int)))) (Ak 2 (An (An (o15 hpre y9 y12 x17 hx17 y20 y22) (by decide:0 < 1)) (An (An (An (zr (AV.agg (cDk b ls (Jb2 b ls d (sdA b ws.length) ((x17:Int) - 1))))) (An (zr (AV.vec 10350)) (An (zr (AV.ptr 0 [])) (An (zr (AV.rp [AV.rp (cWk b)])) (An (zr (AV.ptr 1 [])) (An (zr (AV.ptr 2 [])) tv)))))) (An (o16 hpre y9 y12 x17 hx17 y20 y22) (An (An hpre.1 (An (o17 hpre y9 y12 x17 hx17 y20 y22) (An (o18 hpre y9 y12 x17 hx17 y20 y22) (An (o19 hpre y9 y12 x17 hx17 y20 y22) (o20 hpre y9 y12 x17 hx17 y20 y22))))) (An (An (o21 hpre y9 y12 x17 hx17 y20 y22) (An (o22 hpre y9 y12 x17 hx17 y20 y22) (An (o23 hpre y9 y12 x17 hx17 y20 y22) (An (o24 hpre y9 y12 x17 hx17 y20 y22) (An (zr (some (OB.vec 3 1 (Jan b ls (Jae b ws - 1) d ws st x17).1.length fun (i:Nat)=>[iv ((Jan b ls (Jae b ws - 1) d ws st x17).1.getD i 0)]))) tv))))) (fun (i23:Env)=>tv))))) tv))))) ?_
     refine zR [1,3,5,6,8] [0,1,2,6,10358] (Ak 1 (An (o25 hpre y9 y12 x17 hx17 y20 y22) (Ak 1 tv))) ?_
     exact zn (zEn 6 hE [] [(0,.same 0),(1,.same 1),(6001,.same 10358),(2,.same 2),(6,.same 6)] [1,3] [6] (An (An (An (zr (AV.sl 1 ws.length fun (i:Nat)=>[iv (ws.getD i 0)])) (zr true)) (An (An (zr (AV.rp [AV.rp (cWk b)])) (zr true)) (An (An (zr (some (Src.same 2))) (zr nilP)) (An (An (zr (some (Src.same 6))) (zr nilP)) (An (An (ci (o26 hpre y9 y12 x17 hx17 y20 y22)) (zr nilN)) tv))))) (An (An (An (zr 97) (An (An (An (zr 46) (An (An (zr (some (Src.same 0))) (zr nilP)) (An (An (zr (AV.rp [AV.rp (cWk b)])) (zr nilN)) (An (An (zr (some (Src.same 1))) (zr nilP)) (An (An (zr (some (Src.same 2))) (zr nilP)) tv))))) tv) (zr true))) (An (An (zr (OB.cells 100 (cDk b ls d))) (zr true)) (An (An (zr 3) (An (An (An (ci (o27 hpre y9 y12 x17 hx17 y20 y22)) (zr nilN)) tv) (zr true))) (An (An (zr 27) (An (An (zr (some (Src.same 10358))) tv) (zr true))) (An (An (zr 3) (An (zr 1) (An (o28 hpre y9 y12 x17 hx17 y20 y22) (fun (i24:Nat)=>(fun (y25:i24 < (JaO b ls (Jae b (ws ++ [(x17:Int) - 1])) (Jb2 b ls d (sdA b ws.length) ((x17:Int) - 1)) (ws ++ [(x17:Int) - 1]) (Jan b ls (Jae b ws - 1) d ws st x17)).1.length)=>(o29 hpre y9 y12 x17 hx17 y20 y22 i24 y25)))))) tv))))) (An (zr true) (zr true))))) (o30 hpre y9 y12 x17 hx17 y20 y22) (o31 hpre y9 y12 x17 hx17 y20 y22)
    ·refine Ja3 ?_
     refine zR [1,3,5,6,8] [0,1,2,6,6001] (Ak 1 (An (o32 hpre y9 y12 x17 hx17 y20 y22) (Ak 1 tv))) ?_
     exact zn (zEn 6 hE [] [(0,.same 0),(1,.same 1),(6001,.same 6001),(2,.same 2),(6,.same 6)] [1,3] [6] (An (An (An (zr (AV.sl 1 ws.length fun (i:Nat)=>[iv (ws.getD i 0)])) (zr true)) (An (An (zr (AV.rp [AV.rp (cWk b)])) (zr true)) (An (An (zr (some (Src.same 2))) (zr nilP)) (An (An (zr (some (Src.same 6))) (zr nilP)) (An (An (ci (o33 hpre y9 y12 x17 hx17 y20 y22)) (zr nilN)) tv))))) (An (An (An (zr 97) (An (An (An (zr 46) (An (An (zr (some (Src.same 0))) (zr nilP)) (An (An (zr (AV.rp [AV.rp (cWk b)])) (zr nilN)) (An (An (zr (some (Src.same 1))) (zr nilP)) (An (An (zr (some (Src.same 2))) (zr nilP)) tv))))) tv) (zr true))) (An (An (zr (OB.cells 100 (cDk b ls d))) (zr true)) (An (An (zr 3) (An (An (An (ci (o34 hpre y9 y12 x17 hx17 y20 y22)) (zr nilN)) tv) (zr true))) (An (An (zr 27) (An (An (zr (some (Src.same 6001))) tv) (zr true))) (An (An (zr 3) (An (zr 1) (An (o35 hpre y9 y12 x17 hx17 y20 y22) (fun (i26:Nat)=>(fun (y27:i26 < (Jan b ls (Jae b ws - 1) d ws st x17).1.length)=>(o36 hpre y9 y12 x17 hx17 y20 y22 i26 y27)))))) tv))))) (An (zr true) (zr true))))) (o37 hpre y9 y12 x17 hx17 y20 y22) (o38 hpre y9 y12 x17 hx17 y20 y22)
   ·refine Jaa ?_
    exact zQ (ASt.mk [] [(0,OB.cells 3 [iv (JaO b ls (Jae b ws) d ws st).2]),(1,OB.cells 27 [AV.vec 7]),(2,OB.cells 97 [AV.clo 46 [AV.ptr 0 [],AV.rp [AV.rp (cWk b)],AV.ptr 1 [],AV.ptr 2 []]]),(7,OB.vec 3 1 (JaO b ls (Jae b ws) d ws st).1.length fun (i:Nat)=>[iv ((JaO b ls (Jae b ws) d ws st).1.getD i 0)])] 100) (zEn 6 hE [] [(0,.same 0),(1,.same 1),(7,.same 6001),(2,.same 2)] [] [] (Ak 1 (An (An (An (zr 3) (An (An (An (ci (o39 hpre y9 y12 x17 hx17 y20)) (zr nilN)) tv) (zr true))) (An (An (zr 27) (An (An (zr (some (Src.same 6001))) tv) (zr true))) (An (An (zr 97) (An (An (An (zr 46) (An (An (zr (some (Src.same 0))) (zr nilP)) (An (An (zr (AV.rp [AV.rp (cWk b)])) (zr nilN)) (An (An (zr (some (Src.same 1))) (zr nilP)) (An (An (zr (some (Src.same 2))) (zr nilP)) tv))))) tv) (zr true))) (An (An (zr 3) (An (zr 1) (An (o40 hpre y9 y12 x17 hx17 y20) (fun (i28:Nat)=>(fun (y29:i28 < (Jan b ls (Jae b ws - 1) d ws st x17).1.length)=>(o41 hpre y9 y12 x17 hx17 y20 i28 y29)))))) tv)))) (An (zr true) (zr true))))) (Ak 1 (An (zr (AV.tup [])) (An (zr (some (OB.cells 3 [iv (JaO b ls (Jae b ws) d ws st).2]))) (An (zr (some (OB.cells 27 [AV.vec 7]))) (An (zr (some (OB.cells 97 [AV.clo 46 [AV.ptr 0 [],AV.rp [AV.rp (cWk b)],AV.ptr 1 [],AV.ptr 2 []]]))) (An (zr (some (OB.vec 3 1 (JaO b ls (Jae b ws) d ws st).1.length fun (i:Nat)=>[iv ((JaO b ls (Jae b ws) d ws st).1.getD i 0)]))) tv))))))
theorem Jqs {x y:Int} (hc:(bif decide (0<=x) then decide (x<=y) else false)=false):¬ (0<=x/\x<=y):=by
 intro h
 rw [decide_eq_true h.1,decide_eq_true h.2] at hc; cases hc
theorem JiA {b:Book} {ws:List Int} (y:Int):Jae b (ws ++ [y])=Jae b ws - 1:=by
 unfold Jae; rw [List.length_append,List.length_singleton]; omega
theorem Jed {b:Book} {ls:List Int} {d:Desk} {ws:List Int} {st:Best} {x:Nat} (hx:x < b.ctrs.length + 1) (h:Jbl b ls d (sdA b ws.length) ((x:Int) - 1)=true) :
  JaO b ls (Jae b (ws ++ [(x:Int) - 1])) (Jb2 b ls d (sdA b ws.length) ((x:Int) - 1)) (ws ++ [(x:Int) - 1]) (Jan b ls (Jae b ws - 1) d ws st x)=Jan b ls (Jae b ws - 1) d ws st (x + 1):=by
 rw [JdM hx,JiA]
 unfold Jnl
 rw [if_pos h]
theorem Jee {b:Book} {ls:List Int} {d:Desk} {ws:List Int} {st:Best} {m x:Nat} (hx:x < b.ctrs.length + 1) (h:Jbl b ls d (sdA b ws.length) ((x:Int) - 1)=false):Jan b ls m d ws st x=Jan b ls m d ws st (x + 1):=by
 rw [JdM hx]
 unfold Jnl
 rw [if_neg (by rw [h]; simp)]
theorem JeR {b:Book} {ls:List Int} {d:Desk} {ws:List Int} {st:Best} (hl:ws.length < (stds b).length) (h:¬ (0<=st.2/\st.2<=d.cost)):Jan b ls (Jae b ws - 1) d ws st (b.ctrs.length + 1)=JaO b ls (Jae b ws) d ws st:=by
 have e:Jae b ws=Jae b ws - 1 + 1:=by unfold Jae; omega
 rw [e,JoP h]; rfl
theorem row_eq {l m:List Int} (h:l=m):∀ i,i < l.length -> [iv (l.getD i 0)] = [iv (m.getD i 0)]:=fun i _=>by rw [h]
theorem Jno (ws:List Int) (y:Int):catF ws.length (fun i=>[iv (ws.getD i 0)]) (fun j=>List.getD [[iv y]] j [iv 0])=fun i=>[iv ((ws ++ [y]).getD i 0)]:=by
 funext i
 rw [Jbf]
 unfold catF
 by_cases h:i < ws.length
 ·rw [if_pos h,if_pos h]
 ·rw [if_neg h,if_neg h]
  cases e:i - ws.length with
  | zero=>rfl
  | succ n=>rfl
theorem t46' (b:Book) (ls:List Int):∀ (n:Nat) (d:Desk) (ws:List Int) (st:Best),Jae b ws=n -> ∀ l:List (Nat × Nat),l.map (·.1) = [0,1,2,3,4,7]->(l.map (·.2)).Nodup->Ja4 Tryz.prog 46 ((io46 b ls d ws st).at l):=by
  intro n
  induction n using Nat.strongRecOn with
  | _ n ih =>
    intro d ws st hn l hl hnd
    apply wio46 (l:=l) (hl:=hl) (hnd:=hnd)
    all_goals (try delta q6z q70 q71 q72 q73 q74 q75 q76)
    all_goals (rintro ⟨hs,hg,hlen,hd,ho⟩ hc)
    all_goals (have hst6:=Jev hs; have hct:=hs.ctrs)
    case o0 | o1=>all_goals (rw [Bool.cond_false_right,Bool.and_eq_true,decide_eq_true_eq,decide_eq_true_eq] at hc; rw [Jiy hc.1 hc.2])
    case o2=>rw [Bool.cond_false_right,Bool.and_eq_true,decide_eq_true_eq,decide_eq_true_eq] at hc; rw [Jiy hc.1 hc.2]; intro i _; rfl
    all_goals (have hc':=Jqs hc)
    all_goals (intro hf; simp only [decide_eq_true_eq,decide_eq_false_iff_not] at hf)
    case o3 | o4 => all_goals (have e : Jae b ws = 0 := by unfold Jae; omega
                               rw [e,JfQ hc'])
    case o5 => have e : Jae b ws = 0 := by unfold Jae; omega
               rw [e,JfQ hc']; intro i _; rfl
    all_goals (have hlt:ws.length < (stds b).length:=by omega)
    case o6 | o7 | o8=>all_goals rfl
    case o9=>intro i _; rfl
    case o10=>omega
    all_goals (intro x hx hxl; simp only [decide_eq_true_eq,decide_eq_false_iff_not] at hxl)
    case o39 | o40 => all_goals (have e : x = b.ctrs.length + 1 := by omega
                                 rw [e,JeR hlt hc'])
    case o41 => have e : x = b.ctrs.length + 1 := by omega
                rw [e,JeR hlt hc']; intro i _; rfl
    all_goals (have hxb:x < b.ctrs.length + 1:=by omega)
    case o11=>exact hg
    case o12=>exact hlt
    case o13=>exact hd
    case o14=>omega
    all_goals (intro hb)
    case o15=>omega
    case o16=>exact ih (n - 1) (by unfold Jae at hn; omega) _ _ _ (by rw [JiA]; omega) _ rfl (by decide)
    case o17=>exact hg
    case o18=>rw [List.length_append,List.length_singleton]; omega
    case o19=>rw [List.length_append,List.length_singleton]; exact Jhp hs hg hd _ _
    case o20=>exact Jiz hs hg hd (by unfold Jae; omega) ho x (by omega)
    case o21 | o22 | o23=>all_goals rfl
    case o24=>rw [Jno]; congr 2; simp
    case o27 | o28=>all_goals (rw [Jed hxb hb])
    case o29=>rw [Jed hxb hb]; intro i _; rfl
    case o34 | o35=>all_goals (rw [← Jee hxb hb])
    case o36=>rw [← Jee hxb hb]; intro i _; rfl
    all_goals (first | omega | (simp only [inI]; omega) | skip)
theorem t46 (i3 i4 i5:Nat) (h:[0,1,2,i3,i4,i5].Nodup) (b:Book) (ls:List Int) (d:Desk) (ws:List Int) (st:Best):Ja4 Tryz.prog 46 (s46 i3 i4 i5 b ls d ws st):=t46' b ls _ d ws st rfl _ rfl h
abbrev q77 (b:Book) (ls:List Int) (Pq:Prop):Prop:=SoundB b/\JaL b ls->Pq
abbrev q78 (b:Book) (ls:List Int) (Pq:Prop):Prop:=q77 b ls (decide (0=(↑((stds b).length):Int))=false->Pq)
abbrev q79 (b:Book) (x10:Nat) (Pq:Prop):Prop:=x10<=b.ctrs.length + 1->Pq
abbrev q7a (b:Book) (x10:Nat) (Pq:Prop):Prop:=q79 b x10 (decide ((x10:Int) - 1 < (↑(b.ctrs.length):Int))=true->Pq)
abbrev q7b (b:Book) (ls:List Int) (x10:Nat) (Pq:Prop):Prop:=q7a b x10 (Jbl b ls (JaG b) (sdA b 0) ((x10:Int) - 1)=true->Pq)
abbrev q7c (b:Book) (ls:List Int) (x10:Nat) (Pq:Prop):Prop:=q7a b x10 (Jbl b ls (JaG b) (sdA b 0) ((x10:Int) - 1)=false->Pq)
abbrev q7d (b:Book) (x10:Nat) (Pq:Prop):Prop:=q79 b x10 (decide ((x10:Int) - 1 < (↑(b.ctrs.length):Int))=false->Pq)
theorem wio46n (b:Book) (ls:List Int)
 (o0:q77 b ls (decide (0=(↑((stds b).length):Int))=true->(JaG b).cost=(Jb3 b ls).2))
 (o1:q77 b ls (decide (0=(↑((stds b).length):Int))=true->(Jb3 b ls).1.length=0))
 (o2:q78 b ls (-1=(↑0:Int) - 1))
 (o3:q78 b ls (-1=(Jan b ls (Jae b [] - 1) (JaG b) [] ([],-1) 0).2))
 (o4:q78 b ls (0=(Jan b ls (Jae b [] - 1) (JaG b) [] ([],-1) 0).1.length))
 (o5:q78 b ls (∀ (i11:Nat),i11 < 0 -> [iv (List.getD [] i11 0)] = [iv ((Jan b ls (Jae b [] - 1) (JaG b) [] ([],-1) 0).1.getD i11 0)]))
 (o6:q78 b ls (0<=b.ctrs.length + 1))
 (o7:q78 b ls (∀ (x10:Nat),q7a b x10 (0=(↑0:Int))))
 (o8:q78 b ls (∀ (x10:Nat),q7a b x10 (0 < (stds b).length)))
 (o9:q78 b ls (∀ (x10:Nat),q7a b x10 (okDk 0 (JaG b))))
 (o10:q78 b ls (∀ (x10:Nat),q7b b ls x10 (Ja4 Tryz.prog 46 (c46nr b ls x10 10358))))
 (o11:q78 b ls (∀ (x10:Nat),q7b b ls x10 (([] ++ [(x10:Int) - 1]).length<=(stds b).length)))
 (o12:q78 b ls (∀ (x10:Nat),q7b b ls x10 (okDk ([] ++ [(x10:Int) - 1]).length (Jb2 b ls (JaG b) (sdA b 0) ((x10:Int) - 1)))))
 (o13:q78 b ls (∀ (x10:Nat),q7b b ls x10 (okSt (Jan b ls (Jae b [] - 1) (JaG b) [] ([],-1) x10))))
 (o14:q78 b ls (∀ (x10:Nat),q7b b ls x10 (some (OB.cells 3 [iv (Jan b ls (Jae b [] - 1) (JaG b) [] ([],-1) x10).2])=some (OB.cells 3 (List.map (fun (x:AV)=>match x with | AV.clo f cs=>AV.clo f (List.map (fun (x:AV)=>match x with | AV.vec b=>AV.vec (Decidable.rec (fun (h:¬0=b)=>Decidable.rec (fun (h:¬1=b)=>Decidable.rec (fun (h:¬2=b)=>Decidable.rec (fun (h:¬3=b)=>Decidable.rec (fun (h:¬4=b)=>Decidable.rec (fun (h:¬7=b)=>b) (fun (h:7=b)=>10358) (instDecidableEqNat 7 b)) (fun (h:4=b)=>6001) (instDecidableEqNat 4 b)) (fun (h:3=b)=>10358 - 8) (instDecidableEqNat 3 b)) (fun (h:2=b)=>2) (instDecidableEqNat 2 b)) (fun (h:1=b)=>1) (instDecidableEqNat 1 b)) (fun (h:0=b)=>0) (instDecidableEqNat 0 b)) | AV.ptr b p=>AV.ptr (Decidable.rec (fun (h:¬0=b)=>Decidable.rec (fun (h:¬1=b)=>Decidable.rec (fun (h:¬2=b)=>Decidable.rec (fun (h:¬3=b)=>Decidable.rec (fun (h:¬4=b)=>Decidable.rec (fun (h:¬7=b)=>b) (fun (h:7=b)=>10358) (instDecidableEqNat 7 b)) (fun (h:4=b)=>6001) (instDecidableEqNat 4 b)) (fun (h:3=b)=>10358 - 8) (instDecidableEqNat 3 b)) (fun (h:2=b)=>2) (instDecidableEqNat 2 b)) (fun (h:1=b)=>1) (instDecidableEqNat 1 b)) (fun (h:0=b)=>0) (instDecidableEqNat 0 b)) p | v=>v) cs) | v=>match v with | AV.vec b=>AV.vec (Decidable.rec (fun (h:¬0=b)=>Decidable.rec (fun (h:¬1=b)=>Decidable.rec (fun (h:¬2=b)=>Decidable.rec (fun (h:¬3=b)=>Decidable.rec (fun (h:¬4=b)=>Decidable.rec (fun (h:¬7=b)=>b) (fun (h:7=b)=>10358) (instDecidableEqNat 7 b)) (fun (h:4=b)=>6001) (instDecidableEqNat 4 b)) (fun (h:3=b)=>10358 - 8) (instDecidableEqNat 3 b)) (fun (h:2=b)=>2) (instDecidableEqNat 2 b)) (fun (h:1=b)=>1) (instDecidableEqNat 1 b)) (fun (h:0=b)=>0) (instDecidableEqNat 0 b)) | AV.ptr b p=>AV.ptr (Decidable.rec (fun (h:¬0=b)=>Decidable.rec (fun (h:¬1=b)=>Decidable.rec (fun (h:¬2=b)=>Decidable.rec (fun (h:¬3=b)=>Decidable.rec (fun (h:¬4=b)=>Decidable.rec (fun (h:¬7=b)=>b) (fun (h:7=b)=>10358) (instDecidableEqNat 7 b)) (fun (h:4=b)=>6001) (instDecidableEqNat 4 b)) (fun (h:3=b)=>10358 - 8) (instDecidableEqNat 3 b)) (fun (h:2=b)=>2) (instDecidableEqNat 2 b)) (fun (h:1=b)=>1) (instDecidableEqNat 1 b)) (fun (h:0=b)=>0) (instDecidableEqNat 0 b)) p | v=>v) [iv (Jan b ls (Jae b [] - 1) (JaG b) [] ([],-1) x10).2])))))
 (o15:q78 b ls (∀ (x10:Nat),q7b b ls x10 (some (OB.cells 27 [AV.vec 6001])=some (OB.cells 27 (List.map (fun (x:AV)=>match x with | AV.clo f cs=>AV.clo f (List.map (fun (x:AV)=>match x with | AV.vec b=>AV.vec (Decidable.rec (fun (h:¬0=b)=>Decidable.rec (fun (h:¬1=b)=>Decidable.rec (fun (h:¬2=b)=>Decidable.rec (fun (h:¬3=b)=>Decidable.rec (fun (h:¬4=b)=>Decidable.rec (fun (h:¬7=b)=>b) (fun (h:7=b)=>10358) (instDecidableEqNat 7 b)) (fun (h:4=b)=>6001) (instDecidableEqNat 4 b)) (fun (h:3=b)=>10358 - 8) (instDecidableEqNat 3 b)) (fun (h:2=b)=>2) (instDecidableEqNat 2 b)) (fun (h:1=b)=>1) (instDecidableEqNat 1 b)) (fun (h:0=b)=>0) (instDecidableEqNat 0 b)) | AV.ptr b p=>AV.ptr (Decidable.rec (fun (h:¬0=b)=>Decidable.rec (fun (h:¬1=b)=>Decidable.rec (fun (h:¬2=b)=>Decidable.rec (fun (h:¬3=b)=>Decidable.rec (fun (h:¬4=b)=>Decidable.rec (fun (h:¬7=b)=>b) (fun (h:7=b)=>10358) (instDecidableEqNat 7 b)) (fun (h:4=b)=>6001) (instDecidableEqNat 4 b)) (fun (h:3=b)=>10358 - 8) (instDecidableEqNat 3 b)) (fun (h:2=b)=>2) (instDecidableEqNat 2 b)) (fun (h:1=b)=>1) (instDecidableEqNat 1 b)) (fun (h:0=b)=>0) (instDecidableEqNat 0 b)) p | v=>v) cs) | v=>match v with | AV.vec b=>AV.vec (Decidable.rec (fun (h:¬0=b)=>Decidable.rec (fun (h:¬1=b)=>Decidable.rec (fun (h:¬2=b)=>Decidable.rec (fun (h:¬3=b)=>Decidable.rec (fun (h:¬4=b)=>Decidable.rec (fun (h:¬7=b)=>b) (fun (h:7=b)=>10358) (instDecidableEqNat 7 b)) (fun (h:4=b)=>6001) (instDecidableEqNat 4 b)) (fun (h:3=b)=>10358 - 8) (instDecidableEqNat 3 b)) (fun (h:2=b)=>2) (instDecidableEqNat 2 b)) (fun (h:1=b)=>1) (instDecidableEqNat 1 b)) (fun (h:0=b)=>0) (instDecidableEqNat 0 b)) | AV.ptr b p=>AV.ptr (Decidable.rec (fun (h:¬0=b)=>Decidable.rec (fun (h:¬1=b)=>Decidable.rec (fun (h:¬2=b)=>Decidable.rec (fun (h:¬3=b)=>Decidable.rec (fun (h:¬4=b)=>Decidable.rec (fun (h:¬7=b)=>b) (fun (h:7=b)=>10358) (instDecidableEqNat 7 b)) (fun (h:4=b)=>6001) (instDecidableEqNat 4 b)) (fun (h:3=b)=>10358 - 8) (instDecidableEqNat 3 b)) (fun (h:2=b)=>2) (instDecidableEqNat 2 b)) (fun (h:1=b)=>1) (instDecidableEqNat 1 b)) (fun (h:0=b)=>0) (instDecidableEqNat 0 b)) p | v=>v) [AV.vec 4])))))
 (o16:q78 b ls (∀ (x10:Nat),q7b b ls x10 (some (OB.cells 97 [AV.clo 46 [AV.ptr 0 [],AV.rp [AV.rp (cWk b)],AV.ptr 1 [],AV.ptr 2 []]])=some (OB.cells 97 (List.map (fun (x:AV)=>match x with | AV.clo f cs=>AV.clo f (List.map (fun (x:AV)=>match x with | AV.vec b=>AV.vec (Decidable.rec (fun (h:¬0=b)=>Decidable.rec (fun (h:¬1=b)=>Decidable.rec (fun (h:¬2=b)=>Decidable.rec (fun (h:¬3=b)=>Decidable.rec (fun (h:¬4=b)=>Decidable.rec (fun (h:¬7=b)=>b) (fun (h:7=b)=>10358) (instDecidableEqNat 7 b)) (fun (h:4=b)=>6001) (instDecidableEqNat 4 b)) (fun (h:3=b)=>10358 - 8) (instDecidableEqNat 3 b)) (fun (h:2=b)=>2) (instDecidableEqNat 2 b)) (fun (h:1=b)=>1) (instDecidableEqNat 1 b)) (fun (h:0=b)=>0) (instDecidableEqNat 0 b)) | AV.ptr b p=>AV.ptr (Decidable.rec (fun (h:¬0=b)=>Decidable.rec (fun (h:¬1=b)=>Decidable.rec (fun (h:¬2=b)=>Decidable.rec (fun (h:¬3=b)=>Decidable.rec (fun (h:¬4=b)=>Decidable.rec (fun (h:¬7=b)=>b) (fun (h:7=b)=>10358) (instDecidableEqNat 7 b)) (fun (h:4=b)=>6001) (instDecidableEqNat 4 b)) (fun (h:3=b)=>10358 - 8) (instDecidableEqNat 3 b)) (fun (h:2=b)=>2) (instDecidableEqNat 2 b)) (fun (h:1=b)=>1) (instDecidableEqNat 1 b)) (fun (h:0=b)=>0) (instDecidableEqNat 0 b)) p | v=>v) cs) | v=>match v with | AV.vec b=>AV.vec (Decidable.rec (fun (h:¬0=b)=>Decidable.rec (fun (h:¬1=b)=>Decidable.rec (fun (h:¬2=b)=>Decidable.rec (fun (h:¬3=b)=>Decidable.rec (fun (h:¬4=b)=>Decidable.rec (fun (h:¬7=b)=>b) (fun (h:7=b)=>10358) (instDecidableEqNat 7 b)) (fun (h:4=b)=>6001) (instDecidableEqNat 4 b)) (fun (h:3=b)=>10358 - 8) (instDecidableEqNat 3 b)) (fun (h:2=b)=>2) (instDecidableEqNat 2 b)) (fun (h:1=b)=>1) (instDecidableEqNat 1 b)) (fun (h:0=b)=>0) (instDecidableEqNat 0 b)) | AV.ptr b p=>AV.ptr (Decidable.rec (fun (h:¬0=b)=>Decidable.rec (fun (h:¬1=b)=>Decidable.rec (fun (h:¬2=b)=>Decidable.rec (fun (h:¬3=b)=>Decidable.rec (fun (h:¬4=b)=>Decidable.rec (fun (h:¬7=b)=>b) (fun (h:7=b)=>10358) (instDecidableEqNat 7 b)) (fun (h:4=b)=>6001) (instDecidableEqNat 4 b)) (fun (h:3=b)=>10358 - 8) (instDecidableEqNat 3 b)) (fun (h:2=b)=>2) (instDecidableEqNat 2 b)) (fun (h:1=b)=>1) (instDecidableEqNat 1 b)) (fun (h:0=b)=>0) (instDecidableEqNat 0 b)) p | v=>v) [AV.clo 46 [AV.ptr 0 [],AV.rp [vWk b],AV.ptr 1 [],AV.ptr 2 []]])))))
 (o17:q78 b ls (∀ (x10:Nat),q7b b ls x10 (some (OB.vec 3 1 1 fun (j:Nat)=>List.getD [[iv ((x10:Int) - 1)]] j [iv 0])=some (OB.vec 3 1 ([] ++ [(x10:Int) - 1]).length fun (i:Nat)=>[iv (([] ++ [(x10:Int) - 1]).getD i 0)]))))
 (o18:q78 b ls (∀ (x10:Nat),q7b b ls x10 (inI ((x10:Int) - 1 + 1))))
 (o19:q78 b ls (∀ (x10:Nat),q7b b ls x10 ((x10:Int) - 1 + 1=(↑(x10 + 1):Int) - 1)))
 (o20:q78 b ls (∀ (x10:Nat),q7b b ls x10 ((JaO b ls (Jae b ([] ++ [(x10:Int) - 1])) (Jb2 b ls (JaG b) (sdA b 0) ((x10:Int) - 1)) ([] ++ [(x10:Int) - 1]) (Jan b ls (Jae b [] - 1) (JaG b) [] ([],-1) x10)).2=(Jan b ls (Jae b [] - 1) (JaG b) [] ([],-1) (x10 + 1)).2)))
 (o21:q78 b ls (∀ (x10:Nat),q7b b ls x10 ((JaO b ls (Jae b ([] ++ [(x10:Int) - 1])) (Jb2 b ls (JaG b) (sdA b 0) ((x10:Int) - 1)) ([] ++ [(x10:Int) - 1]) (Jan b ls (Jae b [] - 1) (JaG b) [] ([],-1) x10)).1.length=(Jan b ls (Jae b [] - 1) (JaG b) [] ([],-1) (x10 + 1)).1.length)))
 (o22:q78 b ls (∀ (x10:Nat),q7b b ls x10 (∀ (i17:Nat),i17 < (JaO b ls (Jae b ([] ++ [(x10:Int) - 1])) (Jb2 b ls (JaG b) (sdA b 0) ((x10:Int) - 1)) ([] ++ [(x10:Int) - 1]) (Jan b ls (Jae b [] - 1) (JaG b) [] ([],-1) x10)).1.length -> [iv ((JaO b ls (Jae b ([] ++ [(x10:Int) - 1])) (Jb2 b ls (JaG b) (sdA b 0) ((x10:Int) - 1)) ([] ++ [(x10:Int) - 1]) (Jan b ls (Jae b [] - 1) (JaG b) [] ([],-1) x10)).1.getD i17 0)] = [iv ((Jan b ls (Jae b [] - 1) (JaG b) [] ([],-1) (x10 + 1)).1.getD i17 0)])))
 (o23:q78 b ls (∀ (x10:Nat),q7b b ls x10 (x10 + 1<=b.ctrs.length + 1)))
 (o24:q78 b ls (∀ (x10:Nat),q7b b ls x10 (b.ctrs.length + 1 - (x10 + 1) < b.ctrs.length + 1 - x10)))
 (o25:q78 b ls (∀ (x10:Nat),q7c b ls x10 (inI ((x10:Int) - 1 + 1))))
 (o26:q78 b ls (∀ (x10:Nat),q7c b ls x10 ((x10:Int) - 1 + 1=(↑(x10 + 1):Int) - 1)))
 (o27:q78 b ls (∀ (x10:Nat),q7c b ls x10 ((Jan b ls (Jae b [] - 1) (JaG b) [] ([],-1) x10).2=(Jan b ls (Jae b [] - 1) (JaG b) [] ([],-1) (x10 + 1)).2)))
 (o28:q78 b ls (∀ (x10:Nat),q7c b ls x10 ((Jan b ls (Jae b [] - 1) (JaG b) [] ([],-1) x10).1.length=(Jan b ls (Jae b [] - 1) (JaG b) [] ([],-1) (x10 + 1)).1.length)))
 (o29:q78 b ls (∀ (x10:Nat),q7c b ls x10 (∀ (i19:Nat),i19 < (Jan b ls (Jae b [] - 1) (JaG b) [] ([],-1) x10).1.length -> [iv ((Jan b ls (Jae b [] - 1) (JaG b) [] ([],-1) x10).1.getD i19 0)] = [iv ((Jan b ls (Jae b [] - 1) (JaG b) [] ([],-1) (x10 + 1)).1.getD i19 0)])))
 (o30:q78 b ls (∀ (x10:Nat),q7c b ls x10 (x10 + 1<=b.ctrs.length + 1)))
 (o31:q78 b ls (∀ (x10:Nat),q7c b ls x10 (b.ctrs.length + 1 - (x10 + 1) < b.ctrs.length + 1 - x10)))
 (o32:q78 b ls (∀ (x10:Nat),q7d b x10 ((Jan b ls (Jae b [] - 1) (JaG b) [] ([],-1) x10).2=(Jb3 b ls).2)))
 (o33:q78 b ls (∀ (x10:Nat),q7d b x10 ((Jan b ls (Jae b [] - 1) (JaG b) [] ([],-1) x10).1.length=(Jb3 b ls).1.length)))
 (o34:q78 b ls (∀ (x10:Nat),q7d b x10 (∀ (i21:Nat),i21 < (Jan b ls (Jae b [] - 1) (JaG b) [] ([],-1) x10).1.length -> [iv ((Jan b ls (Jae b [] - 1) (JaG b) [] ([],-1) x10).1.getD i21 0)] = [iv ((Jb3 b ls).1.getD i21 0)])))
  (l:List (Nat × Nat)) (hl:l.map (·.1) = [0,1,2,4,7]) (hnd:(l.map (·.2)).Nodup) :
  Ja4 Tryz.prog 46 (IoSpec.at (Jqp b ls) l):=by
 refine JbU Tryz.func46 rfl Tryz.call46 Jaw (Jqp b ls) 6 l (by rw [hl]; kernel_rfl) hnd (Nat.le_of_ble_eq_true (by kernel_rfl)) (fun _ _ _ _ h=>h) ?_
 intro hpre C hC _ hE
 obtain ⟨P,w0,E0,av,hA,ro,df⟩:=C
 obtain ⟨rfl,rfl,rfl⟩:=hC
 refine Ja0 ?_
 refine zR [1,2,3,4,5,6] [0,1,2,6,4] (Ak 1 tv) ?_
 refine Ja0 ?_
 refine Ja0 ?_
 refine zR [1,2,3,4,5,6,17] [0,1,2,6,4] (Ak 3 (An (fun (y0:false=true)=>(An (Ak 1 tv) tv)) (An (fun (y1:false=true)=>(An (An (fun (y2:false=true)=>y1) tv) tv)) (An (fun (y3:false=true)=>(An (Ak 1 tv) tv)) (An (fun (y4:false=true)=>(An (An (fun (y5:false=true)=>y4) (An (fun (y6:false=true)=>y4) tv)) tv)) (An (An (fun (y7:false=true)=>y7) (fun (y8:false=false)=>tv)) tv)))))) ?_
 refine zf ?_
 refine Ja3 ?_
 refine Ja0 ?_
 refine Ja0 ?_
 refine zR [1,2,3,4,5,6,25] [0,1,2,6,4] (Ak 8 tv) ?_
 refine zI (decide (0=(↑((stds b).length):Int))) (fun y9 => ?_) (fun y9 => ?_)
 ·refine Ja0 ?_
  refine zR [] [0,1,2] (Ak 5 tv) ?_
  refine Ja5 ?_
  exact zO (ASt.mk [] [(0,OB.cells 3 [iv (Jb3 b ls).2]),(1,OB.cells 27 [AV.vec 7]),(2,OB.cells 97 [AV.clo 46 [AV.ptr 0 [],AV.rp [AV.rp (cWk b)],AV.ptr 1 [],AV.ptr 2 []]]),(7,OB.vec 3 1 (Jb3 b ls).1.length fun (i:Nat)=>[iv ((Jb3 b ls).1.getD i 0)])] 100) (zEn 6 hE [] [(0,.same 0),(1,.same 1),(7,.nil),(2,.same 2)] [] [] (Ak 1 (An (An (An (zr 3) (An (An (An (ci (o0 hpre y9)) (zr nilN)) tv) (zr true))) (An (An (zr 27) (An (An (zr (some Src.nil)) tv) (zr true))) (An (An (zr 97) (An (An (An (zr 46) (An (An (zr (some (Src.same 0))) (zr nilP)) (An (An (zr (AV.rp [AV.rp (cWk b)])) (zr nilN)) (An (An (zr (some (Src.same 1))) (zr nilP)) (An (An (zr (some (Src.same 2))) (zr nilP)) tv))))) tv) (zr true))) (An (o1 hpre y9) tv)))) (An (zr true) (zr true))))) (Ak 1 (An (zr (AV.tup [])) (An (zr (some (OB.cells 3 [iv (Jb3 b ls).2]))) (An (zr (some (OB.cells 27 [AV.vec 7]))) (An (zr (some (OB.cells 97 [AV.clo 46 [AV.ptr 0 [],AV.rp [AV.rp (cWk b)],AV.ptr 1 [],AV.ptr 2 []]]))) (An (zr (some (OB.vec 3 1 (Jb3 b ls).1.length fun (i:Nat)=>[iv ((Jb3 b ls).1.getD i 0)]))) tv))))))
 ·refine Ja3 ?_
  refine Ja0 ?_
  refine zR [1,3,5,6,8] [0,1,2,6,4] (Ak 1 tv) ?_
  refine Ja2 ?_
  refine zL (Hint.ann (h46n b ls) [(1,nilv),(3,AV.rp [AV.rp (cWk b)]),(5,AV.ptr 2 []),(6,AV.ptr 6 [])] [(2,OB.cells 97 [AV.clo 46 [AV.ptr 0 [],AV.rp [AV.rp (cWk b)],AV.ptr 1 [],AV.ptr 2 []]]),(6,OB.cells 100 (cDk b ls (JaG b)))] 10150) (zEn 6 hE [] [(0,.same 0),(1,.same 1),(6001,.same 4),(2,.same 2),(6,.same 6)] [1,3] [6] (An (An (An (zr (nilv)) (zr true)) (An (An (zr (AV.rp [AV.rp (cWk b)])) (zr true)) (An (An (zr (some (Src.same 2))) (zr nilP)) (An (An (zr (some (Src.same 6))) (zr nilP)) (An (An (ci (o2 hpre y9)) (zr nilN)) tv))))) (An (An (An (zr 97) (An (An (An (zr 46) (An (An (zr (some (Src.same 0))) (zr nilP)) (An (An (zr (AV.rp [AV.rp (cWk b)])) (zr nilN)) (An (An (zr (some (Src.same 1))) (zr nilP)) (An (An (zr (some (Src.same 2))) (zr nilP)) tv))))) tv) (zr true))) (An (An (zr (OB.cells 100 (cDk b ls (JaG b)))) (zr true)) (An (An (zr 3) (An (An (An (ci (o3 hpre y9)) (zr nilN)) tv) (zr true))) (An (An (zr 27) (An (An (zr (some (Src.same 4))) tv) (zr true))) (An (An (zr 3) (An (zr 1) (An (o4 hpre y9) (fun (i11:Nat)=>(fun (y12:i11 < 0)=>(o5 hpre y9 i11 y12)))))) tv))))) (An (zr true) (zr true))))) (o6 hpre y9) (fun (x10:Nat) hx10 => ?_)
  refine Ja0 ?_
  refine Ja0 ?_
  refine zR [1,3,5,6,8,36] [0,1,2,6,6001] (Ak 8 tv) ?_
  refine zI (decide ((x10:Int) - 1 < (↑(b.ctrs.length):Int))) (fun y13 => ?_) (fun y13 => ?_)
  ·refine Ja3 ?_
   refine Ja0 ?_
   refine Ja2 ?_
   refine Ja0 ?_
   refine zR [1,3,5,6,8,9] [0,1,2,6,10222,6001] (Ak 3 tv) ?_
   refine Ja0 ?_
   refine zC ([(3,CallSpec.eq (c46nb b ls x10) [true,false,true])]) [1,3,5,6,8,9,43] [0,1,2,6,10222,6001] (Ak 3 (An (An (An (zr (AV.ptr 10222 [])) (An (ci (o7 hpre y9 x10 hx10 y13)) (An (zr (iv ((x10:Int) - 1))) tv))) (An (t47 (10222) (b) (ls) (JaG b) (0) ((x10:Int) - 1) (0)) (An (An hpre.1 (An hpre.2 (An (o8 hpre y9 x10 hx10 y13) (An (o9 hpre y9 x10 hx10 y13) (by decide:0<=10))))) (An (An (zr (some (OB.cells 100 (cDk b ls (JaG b))))) tv) (fun (i14:Env)=>tv))))) tv)) ?_
   refine zI (Jbl b ls (JaG b) (sdA b 0) ((x10:Int) - 1)) (fun y15 => ?_) (fun y15 => ?_)
   ·refine zC ([(7,focB8),(11,CallSpec.eq (c46nr b ls x10 10358) [true,true,true,true,true,true])]) [1,3,5,6,8] [0,1,2,6,10358] (Ak 7 (An (An (zr (0:Int)) (zr (0:Int))) (Ak 2 (An (by decide:1<=65536) (An (An (An (zr (AV.agg (cDk b ls (Jb2 b ls (JaG b) (sdA b 0) ((x10:Int) - 1))))) (An (zr (AV.vec 10350)) (An (zr (AV.ptr 0 [])) (An (zr (AV.rp [AV.rp (cWk b)])) (An (zr (AV.ptr 1 [])) (An (zr (AV.ptr 2 [])) tv)))))) (An (o10 hpre y9 x10 hx10 y13 y15) (An (An hpre.1 (An hpre.2 (An (o11 hpre y9 x10 hx10 y13 y15) (An (o12 hpre y9 x10 hx10 y13 y15) (o13 hpre y9 x10 hx10 y13 y15))))) (An (An (o14 hpre y9 x10 hx10 y13 y15) (An (o15 hpre y9 x10 hx10 y13 y15) (An (o16 hpre y9 x10 hx10 y13 y15) (An (o17 hpre y9 x10 hx10 y13 y15) (An (zr (some (OB.vec 3 1 (Jan b ls (Jae b [] - 1) (JaG b) [] ([],-1) x10).1.length fun (i:Nat)=>[iv ((Jan b ls (Jae b [] - 1) (JaG b) [] ([],-1) x10).1.getD i 0)]))) tv))))) (fun (i16:Env)=>tv))))) tv))))) ?_
    refine zR [1,3,5,6,8] [0,1,2,6,10358] (Ak 1 (An (o18 hpre y9 x10 hx10 y13 y15) (Ak 1 tv))) ?_
    exact zn (zEn 6 hE [] [(0,.same 0),(1,.same 1),(6001,.same 10358),(2,.same 2),(6,.same 6)] [1,3] [6] (An (An (An (zr (nilv)) (zr true)) (An (An (zr (AV.rp [AV.rp (cWk b)])) (zr true)) (An (An (zr (some (Src.same 2))) (zr nilP)) (An (An (zr (some (Src.same 6))) (zr nilP)) (An (An (ci (o19 hpre y9 x10 hx10 y13 y15)) (zr nilN)) tv))))) (An (An (An (zr 97) (An (An (An (zr 46) (An (An (zr (some (Src.same 0))) (zr nilP)) (An (An (zr (AV.rp [AV.rp (cWk b)])) (zr nilN)) (An (An (zr (some (Src.same 1))) (zr nilP)) (An (An (zr (some (Src.same 2))) (zr nilP)) tv))))) tv) (zr true))) (An (An (zr (OB.cells 100 (cDk b ls (JaG b)))) (zr true)) (An (An (zr 3) (An (An (An (ci (o20 hpre y9 x10 hx10 y13 y15)) (zr nilN)) tv) (zr true))) (An (An (zr 27) (An (An (zr (some (Src.same 10358))) tv) (zr true))) (An (An (zr 3) (An (zr 1) (An (o21 hpre y9 x10 hx10 y13 y15) (fun (i17:Nat)=>(fun (y18:i17 < (JaO b ls (Jae b ([] ++ [(x10:Int) - 1])) (Jb2 b ls (JaG b) (sdA b 0) ((x10:Int) - 1)) ([] ++ [(x10:Int) - 1]) (Jan b ls (Jae b [] - 1) (JaG b) [] ([],-1) x10)).1.length)=>(o22 hpre y9 x10 hx10 y13 y15 i17 y18)))))) tv))))) (An (zr true) (zr true))))) (o23 hpre y9 x10 hx10 y13 y15) (o24 hpre y9 x10 hx10 y13 y15)
   ·refine Ja3 ?_
    refine zR [1,3,5,6,8] [0,1,2,6,6001] (Ak 1 (An (o25 hpre y9 x10 hx10 y13 y15) (Ak 1 tv))) ?_
    exact zn (zEn 6 hE [] [(0,.same 0),(1,.same 1),(6001,.same 6001),(2,.same 2),(6,.same 6)] [1,3] [6] (An (An (An (zr (nilv)) (zr true)) (An (An (zr (AV.rp [AV.rp (cWk b)])) (zr true)) (An (An (zr (some (Src.same 2))) (zr nilP)) (An (An (zr (some (Src.same 6))) (zr nilP)) (An (An (ci (o26 hpre y9 x10 hx10 y13 y15)) (zr nilN)) tv))))) (An (An (An (zr 97) (An (An (An (zr 46) (An (An (zr (some (Src.same 0))) (zr nilP)) (An (An (zr (AV.rp [AV.rp (cWk b)])) (zr nilN)) (An (An (zr (some (Src.same 1))) (zr nilP)) (An (An (zr (some (Src.same 2))) (zr nilP)) tv))))) tv) (zr true))) (An (An (zr (OB.cells 100 (cDk b ls (JaG b)))) (zr true)) (An (An (zr 3) (An (An (An (ci (o27 hpre y9 x10 hx10 y13 y15)) (zr nilN)) tv) (zr true))) (An (An (zr 27) (An (An (zr (some (Src.same 6001))) tv) (zr true))) (An (An (zr 3) (An (zr 1) (An (o28 hpre y9 x10 hx10 y13 y15) (fun (i19:Nat)=>(fun (y20:i19 < (Jan b ls (Jae b [] - 1) (JaG b) [] ([],-1) x10).1.length)=>(o29 hpre y9 x10 hx10 y13 y15 i19 y20)))))) tv))))) (An (zr true) (zr true))))) (o30 hpre y9 x10 hx10 y13 y15) (o31 hpre y9 x10 hx10 y13 y15)
  ·refine Jaa ?_
   exact zQ (ASt.mk [] [(0,OB.cells 3 [iv (Jb3 b ls).2]),(1,OB.cells 27 [AV.vec 7]),(2,OB.cells 97 [AV.clo 46 [AV.ptr 0 [],AV.rp [AV.rp (cWk b)],AV.ptr 1 [],AV.ptr 2 []]]),(7,OB.vec 3 1 (Jb3 b ls).1.length fun (i:Nat)=>[iv ((Jb3 b ls).1.getD i 0)])] 100) (zEn 6 hE [] [(0,.same 0),(1,.same 1),(7,.same 6001),(2,.same 2)] [] [] (Ak 1 (An (An (An (zr 3) (An (An (An (ci (o32 hpre y9 x10 hx10 y13)) (zr nilN)) tv) (zr true))) (An (An (zr 27) (An (An (zr (some (Src.same 6001))) tv) (zr true))) (An (An (zr 97) (An (An (An (zr 46) (An (An (zr (some (Src.same 0))) (zr nilP)) (An (An (zr (AV.rp [AV.rp (cWk b)])) (zr nilN)) (An (An (zr (some (Src.same 1))) (zr nilP)) (An (An (zr (some (Src.same 2))) (zr nilP)) tv))))) tv) (zr true))) (An (An (zr 3) (An (zr 1) (An (o33 hpre y9 x10 hx10 y13) (fun (i21:Nat)=>(fun (y22:i21 < (Jan b ls (Jae b [] - 1) (JaG b) [] ([],-1) x10).1.length)=>(o34 hpre y9 x10 hx10 y13 i21 y22)))))) tv)))) (An (zr true) (zr true))))) (Ak 1 (An (zr (AV.tup [])) (An (zr (some (OB.cells 3 [iv (Jb3 b ls).2]))) (An (zr (some (OB.cells 27 [AV.vec 7]))) (An (zr (some (OB.cells 97 [AV.clo 46 [AV.ptr 0 [],AV.rp [AV.rp (cWk b)],AV.ptr 1 [],AV.ptr 2 []]]))) (An (zr (some (OB.vec 3 1 (Jb3 b ls).1.length fun (i:Nat)=>[iv ((Jb3 b ls).1.getD i 0)]))) tv))))))
theorem JfR (b:Book) (ls:List Int):Jb3 b ls=JaO b ls (Jae b []) (JaG b) [] ([],-1):=rfl
theorem t46n (i0 i1 i2 i4 i5:Nat) (b:Book) (ls:List Int) (h:[i0,i1,i2,i4,i5].Nodup:=by decide):Ja4 Tryz.prog 46 (s46n i0 i1 i2 i4 i5 b ls):=by
  apply wio46n b ls (l:=[(0,i0),(1,i1),(2,i2),(4,i4),(7,i5)]) (hl:=rfl) (hnd:=h)
  all_goals (try delta q77 q78 q79 q7a q7b q7c q7d)
  all_goals (rintro ⟨hs,hg⟩ hf; simp only [decide_eq_true_eq,decide_eq_false_iff_not] at hf)
  all_goals (have hst6:=Jev hs; have hct:=hs.ctrs; have hd:=JoQ hs; have hc':¬ (0<=(([],-1):Best).2/\(([],-1):Best).2<=(JaG b).cost):=by simp)
  case o0 | o1 => all_goals (have e : Jae b [] = 0 := by unfold Jae; simp only [List.length_nil]; omega
                             rw [JfR,e,JfQ hc']; try rfl)
  case o2 | o3 | o4=>all_goals rfl
  case o5=>intro i _; rfl
  case o6=>omega
  all_goals (have hlt:([]:List Int).length < (stds b).length:=by simp only [List.length_nil]; omega)
  all_goals (intro x hx hxl; simp only [decide_eq_true_eq,decide_eq_false_iff_not] at hxl)
  case o32 | o33 => all_goals (have e : x = b.ctrs.length + 1 := by omega
                               rw [e,JeR hlt hc',JfR])
  case o34 => have e : x = b.ctrs.length + 1 := by omega
              rw [e,JeR hlt hc',JfR]; intro i _; rfl
  all_goals (have hxb:x < b.ctrs.length + 1:=by omega)
  case o7=>rfl
  case o8=>exact hlt
  case o9=>exact hd
  all_goals (intro hb)
  case o10=>exact t46 _ _ _ (by decide) b ls _ _ _
  case o11=>simp only [List.nil_append,List.length_singleton]; simp only [List.length_nil] at hlt; omega
  case o12=>simp only [List.nil_append,List.length_singleton]; exact Jhp hs hg hd _ _
  case o13=>exact Jiz hs hg hd (by unfold Jae; simp only [List.length_nil]; omega) ⟨by simp,by simp⟩ x (by omega)
  case o14 | o15 | o16=>all_goals rfl
  case o17 => have := Jno [] ((x : Int) - 1)
              refine congrArg (fun g=>some (OB.vec _ 1 1 g)) ?_
              rw [← this]; funext j; unfold catF; simp
  case o20 | o21=>all_goals (have:=Jed (ls:=ls) (d:=JaG b) (ws:=[]) (st:=([],-1)) hxb hb; first | rw [this] | (rw [← this]; rfl))
  case o22=>exact row_eq (congrArg Prod.fst <| Jed (ls:=ls) (d:=JaG b) (ws:=[]) (st:=([],-1)) hxb hb)
  case o27 | o28=>all_goals (rw [← Jee (ws:=[]) hxb hb])
  case o29=>rw [← Jee (ws:=[]) hxb hb]; intro i _; rfl
  all_goals (first | omega | (simp only [inI]; omega) | skip)
theorem wo29 (b:Book) (ls:List Int)
  (o0:SoundB b/\JaL b ls->some (OB.cells 3 [iv (-1)])=some (OB.cells 3 (List.map (fun (x:AV)=>match x with | AV.clo f cs=>AV.clo f (List.map (fun (x:AV)=>match x with | AV.vec b=>AV.vec (Decidable.rec (fun (h:¬0=b)=>Decidable.rec (fun (h:¬1=b)=>Decidable.rec (fun (h:¬2=b)=>Decidable.rec (fun (h:¬4=b)=>Decidable.rec (fun (h:¬7=b)=>b) (fun (h:7=b)=>88) (instDecidableEqNat 7 b)) (fun (h:4=b)=>9) (instDecidableEqNat 4 b)) (fun (h:2=b)=>32) (instDecidableEqNat 2 b)) (fun (h:1=b)=>8) (instDecidableEqNat 1 b)) (fun (h:0=b)=>16) (instDecidableEqNat 0 b)) | AV.ptr b p=>AV.ptr (Decidable.rec (fun (h:¬0=b)=>Decidable.rec (fun (h:¬1=b)=>Decidable.rec (fun (h:¬2=b)=>Decidable.rec (fun (h:¬4=b)=>Decidable.rec (fun (h:¬7=b)=>b) (fun (h:7=b)=>88) (instDecidableEqNat 7 b)) (fun (h:4=b)=>9) (instDecidableEqNat 4 b)) (fun (h:2=b)=>32) (instDecidableEqNat 2 b)) (fun (h:1=b)=>8) (instDecidableEqNat 1 b)) (fun (h:0=b)=>16) (instDecidableEqNat 0 b)) p | v=>v) cs) | v=>match v with | AV.vec b=>AV.vec (Decidable.rec (fun (h:¬0=b)=>Decidable.rec (fun (h:¬1=b)=>Decidable.rec (fun (h:¬2=b)=>Decidable.rec (fun (h:¬4=b)=>Decidable.rec (fun (h:¬7=b)=>b) (fun (h:7=b)=>88) (instDecidableEqNat 7 b)) (fun (h:4=b)=>9) (instDecidableEqNat 4 b)) (fun (h:2=b)=>32) (instDecidableEqNat 2 b)) (fun (h:1=b)=>8) (instDecidableEqNat 1 b)) (fun (h:0=b)=>16) (instDecidableEqNat 0 b)) | AV.ptr b p=>AV.ptr (Decidable.rec (fun (h:¬0=b)=>Decidable.rec (fun (h:¬1=b)=>Decidable.rec (fun (h:¬2=b)=>Decidable.rec (fun (h:¬4=b)=>Decidable.rec (fun (h:¬7=b)=>b) (fun (h:7=b)=>88) (instDecidableEqNat 7 b)) (fun (h:4=b)=>9) (instDecidableEqNat 4 b)) (fun (h:2=b)=>32) (instDecidableEqNat 2 b)) (fun (h:1=b)=>8) (instDecidableEqNat 1 b)) (fun (h:0=b)=>16) (instDecidableEqNat 0 b)) p | v=>v) [iv (-1)])))
  (o1:SoundB b/\JaL b ls->some (OB.cells 27 [AV.vec 9])=some (OB.cells 27 (List.map (fun (x:AV)=>match x with | AV.clo f cs=>AV.clo f (List.map (fun (x:AV)=>match x with | AV.vec b=>AV.vec (Decidable.rec (fun (h:¬0=b)=>Decidable.rec (fun (h:¬1=b)=>Decidable.rec (fun (h:¬2=b)=>Decidable.rec (fun (h:¬4=b)=>Decidable.rec (fun (h:¬7=b)=>b) (fun (h:7=b)=>88) (instDecidableEqNat 7 b)) (fun (h:4=b)=>9) (instDecidableEqNat 4 b)) (fun (h:2=b)=>32) (instDecidableEqNat 2 b)) (fun (h:1=b)=>8) (instDecidableEqNat 1 b)) (fun (h:0=b)=>16) (instDecidableEqNat 0 b)) | AV.ptr b p=>AV.ptr (Decidable.rec (fun (h:¬0=b)=>Decidable.rec (fun (h:¬1=b)=>Decidable.rec (fun (h:¬2=b)=>Decidable.rec (fun (h:¬4=b)=>Decidable.rec (fun (h:¬7=b)=>b) (fun (h:7=b)=>88) (instDecidableEqNat 7 b)) (fun (h:4=b)=>9) (instDecidableEqNat 4 b)) (fun (h:2=b)=>32) (instDecidableEqNat 2 b)) (fun (h:1=b)=>8) (instDecidableEqNat 1 b)) (fun (h:0=b)=>16) (instDecidableEqNat 0 b)) p | v=>v) cs) | v=>match v with | AV.vec b=>AV.vec (Decidable.rec (fun (h:¬0=b)=>Decidable.rec (fun (h:¬1=b)=>Decidable.rec (fun (h:¬2=b)=>Decidable.rec (fun (h:¬4=b)=>Decidable.rec (fun (h:¬7=b)=>b) (fun (h:7=b)=>88) (instDecidableEqNat 7 b)) (fun (h:4=b)=>9) (instDecidableEqNat 4 b)) (fun (h:2=b)=>32) (instDecidableEqNat 2 b)) (fun (h:1=b)=>8) (instDecidableEqNat 1 b)) (fun (h:0=b)=>16) (instDecidableEqNat 0 b)) | AV.ptr b p=>AV.ptr (Decidable.rec (fun (h:¬0=b)=>Decidable.rec (fun (h:¬1=b)=>Decidable.rec (fun (h:¬2=b)=>Decidable.rec (fun (h:¬4=b)=>Decidable.rec (fun (h:¬7=b)=>b) (fun (h:7=b)=>88) (instDecidableEqNat 7 b)) (fun (h:4=b)=>9) (instDecidableEqNat 4 b)) (fun (h:2=b)=>32) (instDecidableEqNat 2 b)) (fun (h:1=b)=>8) (instDecidableEqNat 1 b)) (fun (h:0=b)=>16) (instDecidableEqNat 0 b)) p | v=>v) [AV.vec 4])))
  (o2:SoundB b/\JaL b ls->some (OB.cells 97 [AV.clo 46 [AV.ptr 16 [],AV.rp [AV.rp (cWk b)],AV.ptr 8 [],AV.ptr 32 []]])=some (OB.cells 97 (List.map (fun (x:AV)=>match x with | AV.clo f cs=>AV.clo f (List.map (fun (x:AV)=>match x with | AV.vec b=>AV.vec (Decidable.rec (fun (h:¬0=b)=>Decidable.rec (fun (h:¬1=b)=>Decidable.rec (fun (h:¬2=b)=>Decidable.rec (fun (h:¬4=b)=>Decidable.rec (fun (h:¬7=b)=>b) (fun (h:7=b)=>88) (instDecidableEqNat 7 b)) (fun (h:4=b)=>9) (instDecidableEqNat 4 b)) (fun (h:2=b)=>32) (instDecidableEqNat 2 b)) (fun (h:1=b)=>8) (instDecidableEqNat 1 b)) (fun (h:0=b)=>16) (instDecidableEqNat 0 b)) | AV.ptr b p=>AV.ptr (Decidable.rec (fun (h:¬0=b)=>Decidable.rec (fun (h:¬1=b)=>Decidable.rec (fun (h:¬2=b)=>Decidable.rec (fun (h:¬4=b)=>Decidable.rec (fun (h:¬7=b)=>b) (fun (h:7=b)=>88) (instDecidableEqNat 7 b)) (fun (h:4=b)=>9) (instDecidableEqNat 4 b)) (fun (h:2=b)=>32) (instDecidableEqNat 2 b)) (fun (h:1=b)=>8) (instDecidableEqNat 1 b)) (fun (h:0=b)=>16) (instDecidableEqNat 0 b)) p | v=>v) cs) | v=>match v with | AV.vec b=>AV.vec (Decidable.rec (fun (h:¬0=b)=>Decidable.rec (fun (h:¬1=b)=>Decidable.rec (fun (h:¬2=b)=>Decidable.rec (fun (h:¬4=b)=>Decidable.rec (fun (h:¬7=b)=>b) (fun (h:7=b)=>88) (instDecidableEqNat 7 b)) (fun (h:4=b)=>9) (instDecidableEqNat 4 b)) (fun (h:2=b)=>32) (instDecidableEqNat 2 b)) (fun (h:1=b)=>8) (instDecidableEqNat 1 b)) (fun (h:0=b)=>16) (instDecidableEqNat 0 b)) | AV.ptr b p=>AV.ptr (Decidable.rec (fun (h:¬0=b)=>Decidable.rec (fun (h:¬1=b)=>Decidable.rec (fun (h:¬2=b)=>Decidable.rec (fun (h:¬4=b)=>Decidable.rec (fun (h:¬7=b)=>b) (fun (h:7=b)=>88) (instDecidableEqNat 7 b)) (fun (h:4=b)=>9) (instDecidableEqNat 4 b)) (fun (h:2=b)=>32) (instDecidableEqNat 2 b)) (fun (h:1=b)=>8) (instDecidableEqNat 1 b)) (fun (h:0=b)=>16) (instDecidableEqNat 0 b)) p | v=>v) [AV.clo 46 [AV.ptr 0 [],AV.rp [vWk b],AV.ptr 1 [],AV.ptr 2 []]])))
  (l:List (Nat × Nat)) (hl:l.map (·.1)=(OutSpec.hout (ou29 b ls)).map (·.1)) (hnd:(l.map (·.2)).Nodup) :
  Ja4 Tryz.prog 29 (OutSpec.at (ou29 b ls) l):=by
 refine Jbu Tryz.func29 rfl Tryz.call29 Jaw _ _ _ _ l rfl (Nat.le_of_ble_eq_true (by kernel_rfl)) hl hnd (by kernel_rfl) (by kernel_rfl) (by kernel_rfl) ?_
 intro hpre C hC hE
 obtain ⟨P,w0,E0,av,hA,ro,df⟩:=C
 obtain ⟨rfl,rfl,rfl⟩:=hC
 refine Ja0 ?_
 refine zC ([(0,focB8)]) [1,2,4,5] [8,16] (Ak 3 tv) ?_
 refine Ja0 ?_
 refine zR [1,2,4,5] [8,16] (Ak 1 tv) ?_
 refine Ja0 ?_
 refine zR [1,2,4,5,6] [8,16,32] (Ak 1 tv) ?_
 refine Ja0 ?_
 refine zR [1,2,4,5,6] [8,16,32] (Ak 2 tv) ?_
 refine Ja0 ?_
 refine Jbi (zE (st2:=ASt.mk [(1,Ja6 ls),(2,AV.rp [AV.rp (cWk b)]),(4,AV.ptr 8 []),(5,AV.ptr 16 []),(6,AV.ptr 32 [])] [(8,OB.cells 27 [AV.vec 9]),(9,OB.vec 3 1 0 fun (i:Nat)=>[iv (List.getD [] i 0)]),(16,OB.cells 3 [iv (-1)]),(32,OB.cells 97 [AV.clo 46 [AV.ptr 16 [],AV.rp [AV.rp (cWk b)],AV.ptr 8 [],AV.ptr 32 []]])] 56) hE [] [(8,.same 8),(9,.nil),(16,.same 16),(32,.same 32)] [1,2] [16] (An (An (An (zr (Ja6 ls)) (zr true)) (An (An (zr (AV.rp [AV.rp (cWk b)])) (zr true)) (An (An (zr (some (Src.same 8))) (zr nilP)) (An (An (zr (some (Src.same 16))) (zr nilP)) (An (An (zr (some (Src.same 32))) (zr nilP)) tv))))) (An (An (An (zr 27) (An (An (zr (some Src.nil)) tv) (zr true))) (An (zr 0) (An (An (zr (OB.cells 3 [iv (-1)])) (zr true)) (An (An (zr 97) (An (An (An (zr 46) (An (An (zr (some (Src.same 16))) (zr nilP)) (An (An (zr (AV.rp [AV.rp (cWk b)])) (zr nilN)) (An (An (zr (some (Src.same 8))) (zr nilP)) (An (An (zr (some (Src.same 32))) (zr nilP)) tv))))) tv) (zr true))) tv)))) (An (zr true) (zr true))))) ?_
 refine zC ([(3,CallSpec.eq (s48 b ls) [true,true]),(4,CallSpec.eq (c29 b ls 88) [true,true,true,true,true,true])]) [4,5] [8,16,88] (Ak 3 (An (An (An (zr (AV.rp (cWk b))) (An (zr (Ja6 ls)) tv)) (An (t48 (b) (ls)) (An hpre.1 (Ak 1 (fun (i0:Env)=>tv))))) (An (An (An (zr (AV.agg (cDk b ls (JaG b)))) (An (zr (nilv)) (An (zr (AV.ptr 16 [])) (An (zr (AV.rp [AV.rp (cWk b)])) (An (zr (AV.ptr 8 [])) (An (zr (AV.ptr 32 [])) tv)))))) (An (t46n (16) (8) (32) (9) (88) (b) (ls)) (An (An hpre.1 hpre.2) (An (An (o0 hpre) (An (o1 hpre) (An (o2 hpre) (An (zr (some (OB.vec 3 1 0 fun (i:Nat)=>[iv (List.getD [] i 0)]))) tv)))) (fun (i1:Env)=>tv))))) tv))) ?_
 refine Ja0 ?_
 refine zR [4,5] [8,16,88] (Ak 4 tv) ?_
 refine Ja5 ?_
 exact zO (ASt.mk [(4,AV.ptr 90 []),(5,AV.ptr 91 [])] [(90,OB.cells 27 [AV.vec 0]),(91,OB.cells 3 [iv (Jb3 b ls).2]),(0,OB.vec 3 1 (Jb3 b ls).1.length fun (i:Nat)=>[iv ((Jb3 b ls).1.getD i 0)])] 100) (zE hE [] [(90,.same 8),(0,.same 88),(91,.same 16)] [] [] (An (An (An (zr (some (Src.same 8))) (zr nilP)) (An (An (zr (some (Src.same 16))) (zr nilP)) tv)) (An (An (An (zr 27) (An (An (zr (some (Src.same 88))) tv) (zr true))) (An (An (zr 3) (An (An (An (zr (iv (Jb3 b ls).2)) (zr nilN)) tv) (zr true))) (An (An (zr 3) (An (zr 1) (An (zr (Jb3 b ls).1.length) (fun (i2:Nat)=>(fun (y3:i2 < (Jb3 b ls).1.length)=>(zr ([iv ((Jb3 b ls).1.getD i2 0)]))))))) tv))) (An (zr true) (zr true))))) (An (Ak 2 tv) (An (zr (AV.tup [AV.vec 0,iv (Jb3 b ls).2])) (An (zr (some (OB.vec 3 1 (Jb3 b ls).1.length fun (i:Nat)=>[iv ((Jb3 b ls).1.getD i 0)]))) tv)))
theorem to29 (b:Book) (ls:List Int) (l:List (Nat × Nat)) (hl:l.map (·.1) = [0]) (hnd:(l.map (·.2)).Nodup):Ja4 Tryz.prog 29 ((ou29 b ls).at l):=by
 apply wo29 (l:=l) (hl:=hl) (hnd:=hnd)
 all_goals (intro _; rfl)
theorem t29o (b:Book) (ls:List Int) (id:Nat):Ja4 Tryz.prog 29 (s29o b ls id):=to29 b ls _ rfl (by simp)
abbrev q7e (b:Book) (Pq:Prop):Prop:=SoundB b->Pq
abbrev q7f (b:Book) (x0:Nat) (Pq:Prop):Prop:=x0<=b.lines.length->Pq
abbrev q7g (b:Book) (x0:Nat) (Pq:Prop):Prop:=q7f b x0 (decide ((x0:Int) < (↑(b.lines.length):Int))=true->Pq)
abbrev q7h (b:Book) (x0:Nat) (Pq:Prop):Prop:=q7f b x0 (decide ((x0:Int) < (↑(b.lines.length):Int))=false->Pq)
theorem wo56 (b:Book)
 (o0:q7e b (0=(↑0:Int)))
 (o1:q7e b ((List.take 0 (Jbq b)).length=0))
 (o2:q7e b ((List.take 0 (JaS b)).length=0))
 (o3:q7e b (0<=List.length (Book.lines b)))
 (o4:q7e b (∀ (x0:Nat),q7g b x0 (0<=(x0:Int))))
 (o5:q7e b (∀ (x0:Nat),q7g b x0 ((x0:Int) < (↑(b.lines.length):Int))))
 (o6:q7e b (∀ (x0:Nat),q7g b x0 ((List.take x0 (Jbq b)).length + 1<=65536)))
 (o7:q7e b (∀ (x0:Nat),q7g b x0 ((List.take x0 (JaS b)).length + 1<=65536)))
 (o8:q7e b (∀ (x0:Nat),q7g b x0 (inI ((x0:Int) + 1))))
 (o9:q7e b (∀ (x0:Nat),q7g b x0 ((x0:Int) + 1=(↑(x0 + 1):Int))))
 (o10:q7e b (∀ (x0:Nat),q7g b x0 ((List.take x0 (Jbq b)).length + 1=(List.take (x0 + 1) (Jbq b)).length)))
 (o11:q7e b (∀ (x0:Nat),q7g b x0 (∀ (i2:Nat),i2 < (List.take x0 (Jbq b)).length + 1->catF (List.take x0 (Jbq b)).length (fun (i:Nat)=>[iv ((List.take x0 (Jbq b)).getD i 0)]) (fun (j:Nat)=>List.getD [[iv (lnB b x0).lo]] j (TI.za ti3)) i2 = [iv ((List.take (x0 + 1) (Jbq b)).getD i2 0)])))
 (o12:q7e b (∀ (x0:Nat),q7g b x0 ((List.take x0 (JaS b)).length + 1=(List.take (x0 + 1) (JaS b)).length)))
 (o13:q7e b (∀ (x0:Nat),q7g b x0 (∀ (i4:Nat),i4 < (List.take x0 (JaS b)).length + 1->catF (List.take x0 (JaS b)).length (fun (i:Nat)=>[iv ((List.take x0 (JaS b)).getD i 0)]) (fun (j:Nat)=>List.getD [[iv (lnB b x0).hi]] j (TI.za ti3)) i4 = [iv ((List.take (x0 + 1) (JaS b)).getD i4 0)])))
 (o14:q7e b (∀ (x0:Nat),q7g b x0 (x0 + 1<=b.lines.length)))
 (o15:q7e b (∀ (x0:Nat),q7g b x0 (b.lines.length - (x0 + 1) < b.lines.length - x0)))
 (o16:q7e b (∀ (x0:Nat),q7h b x0 ((List.take x0 (Jbq b)).length=(Jbq b).length)))
 (o17:q7e b (∀ (x0:Nat),q7h b x0 (∀ (i6:Nat),i6 < (List.take x0 (Jbq b)).length -> [iv ((List.take x0 (Jbq b)).getD i6 0)] = [iv ((Jbq b).getD i6 0)])))
 (o18:q7e b (∀ (x0:Nat),q7h b x0 ((List.take x0 (JaS b)).length=(JaS b).length)))
 (o19:q7e b (∀ (x0:Nat),q7h b x0 (∀ (i8:Nat),i8 < (List.take x0 (JaS b)).length -> [iv ((List.take x0 (JaS b)).getD i8 0)] = [iv ((JaS b).getD i8 0)])))
  (l:List (Nat × Nat)) (hl:l.map (·.1)=(OutSpec.hout (ou56 b)).map (·.1)) (hnd:(l.map (·.2)).Nodup) :
  Ja4 Tryz.prog 56 (OutSpec.at (ou56 b) l):=by
 refine Jbu Tryz.func56 rfl Tryz.call56 Jaw _ _ _ _ l rfl (Nat.le_of_ble_eq_true (by kernel_rfl)) hl hnd (by kernel_rfl) (by kernel_rfl) (by kernel_rfl) ?_
 intro hpre C hC hE
 obtain ⟨P,w0,E0,av,hA,ro,df⟩:=C
 obtain ⟨rfl,rfl,rfl⟩:=hC
 refine Ja0 ?_
 refine zR [0,2,3] [] (Ak 2 tv) ?_
 refine Ja0 ?_
 refine Ja0 ?_
 refine zR [2,3,10,11,12] [] (Ak 7 tv) ?_
 refine Ja2 ?_
 refine zL (Hint.ann (h56 b) [(10,AV.sl 2 b.lines.length fun (i:Nat)=>Jb6 (lnB b i)),(11,iv (↑(b.lines.length):Int))] [] 10072) (zE hE [] [(5000,.nil),(5001,.nil)] [10,11] [] (An (An (An (zr (AV.sl 2 b.lines.length fun (i:Nat)=>Jb6 (lnB b i))) (zr true)) (An (An (zr (iv (↑(b.lines.length):Int))) (zr true)) (An (zr (some Src.nil)) (An (zr (some Src.nil)) (An (An (ci (o0 hpre)) (zr nilN)) tv))))) (An (An (o1 hpre) (An (o2 hpre) tv)) (An (zr true) (zr true))))) (o3 hpre) (fun (x0:Nat) hx0 => ?_)
 refine Ja0 ?_
 refine zR [10,11,2,3,12,13] [5000,5001] (Ak 1 tv) ?_
 refine Ja0 ?_
 refine zI (decide ((x0:Int) < (↑(b.lines.length):Int))) (fun y1 => ?_) (fun y1 => ?_)
 ·refine Ja3 ?_
  refine Ja0 ?_
  refine Ja2 ?_
  refine Ja0 ?_
  refine zR [10,11,2,3,12,5] [5000,5001,10096] (An (An (o4 hpre x0 hx0 y1) (o5 hpre x0 hx0 y1)) (Ak 3 tv)) ?_
  refine zR [10,11,2,3,12] [10144,10184] (Ak 4 (An (o6 hpre x0 hx0 y1) (Ak 4 (An (o7 hpre x0 hx0 y1) (Ak 2 tv))))) ?_
  refine zR [10,11,2,3,12] [10144,10184] (An (o8 hpre x0 hx0 y1) (Ak 1 tv)) ?_
  exact zn (zE hE [] [(5000,.same 10144),(5001,.same 10184)] [10,11] [] (An (An (An (zr (AV.sl 2 b.lines.length fun (i:Nat)=>Jb6 (lnB b i))) (zr true)) (An (An (zr (iv (↑(b.lines.length):Int))) (zr true)) (An (zr (some (Src.same 10144))) (An (zr (some (Src.same 10184))) (An (An (ci (o9 hpre x0 hx0 y1)) (zr nilN)) tv))))) (An (An (An (zr 3) (An (zr 1) (An (o10 hpre x0 hx0 y1) (fun (i2:Nat)=>(fun (y3:i2 < (List.take x0 (Jbq b)).length + 1)=>(o11 hpre x0 hx0 y1 i2 y3)))))) (An (An (zr 3) (An (zr 1) (An (o12 hpre x0 hx0 y1) (fun (i4:Nat)=>(fun (y5:i4 < (List.take x0 (JaS b)).length + 1)=>(o13 hpre x0 hx0 y1 i4 y5)))))) tv)) (An (zr true) (zr true))))) (o14 hpre x0 hx0 y1) (o15 hpre x0 hx0 y1)
 ·refine Jaa ?_
  refine Ja0 ?_
  refine zR [2,3] [5000,5001] (Ak 4 tv) ?_
  refine Ja5 ?_
  exact zO (ASt.mk [(2,AV.vec 0),(3,AV.vec 1)] [(0,OB.vec 3 1 (Jbq b).length fun (i:Nat)=>[iv ((Jbq b).getD i 0)]),(1,OB.vec 3 1 (JaS b).length fun (i:Nat)=>[iv ((JaS b).getD i 0)])] 100) (zE hE [] [(0,.same 5000),(1,.same 5001)] [] [] (An (An (zr (some (Src.same 5000))) (An (zr (some (Src.same 5001))) tv)) (An (An (An (zr 3) (An (zr 1) (An (o16 hpre x0 hx0 y1) (fun (i6:Nat)=>(fun (y7:i6 < (List.take x0 (Jbq b)).length)=>(o17 hpre x0 hx0 y1 i6 y7)))))) (An (An (zr 3) (An (zr 1) (An (o18 hpre x0 hx0 y1) (fun (i8:Nat)=>(fun (y9:i8 < (List.take x0 (JaS b)).length)=>(o19 hpre x0 hx0 y1 i8 y9)))))) tv)) (An (zr true) (zr true))))) (An (Ak 2 tv) (An (zr (AV.tup [AV.vec 0,AV.vec 1])) (An (zr (some (OB.vec 3 1 (Jbq b).length fun (i:Nat)=>[iv ((Jbq b).getD i 0)]))) (An (zr (some (OB.vec 3 1 (JaS b).length fun (i:Nat)=>[iv ((JaS b).getD i 0)]))) tv))))
theorem JeS (b:Book):(Jbq b).length=b.lines.length:=by simp [Jbq]
theorem Jef (b:Book):(JaS b).length=b.lines.length:=by simp [JaS]
theorem to56 (b:Book) (l:List (Nat × Nat)) (hl:l.map (·.1) = [0,1]) (hnd:(l.map (·.2)).Nodup):Ja4 Tryz.prog 56 ((ou56 b).at l):=by
 apply wo56 (l:=l) (hl:=hl) (hnd:=hnd)
 all_goals (try delta q7e q7f q7g q7h)
 all_goals (intro hs; have hln:=hs.lines)
 case o1 | o2=>all_goals rfl
 case o3=>omega
 case o0=>rfl
 all_goals (intro x hx hxl; simp only [decide_eq_true_eq,decide_eq_false_iff_not] at hxl)
 case o6 | o7=>all_goals (rw [List.length_take]; omega)
 case o10=>rw [List.length_take,List.length_take,JeS]; omega
 case o12=>rw [List.length_take,List.length_take,Jef]; omega
 case o11 =>
  rw [JaV _ 0 (by rw [JeS]; omega)]
  exact Jhn 0 (fun n=>[iv n]) _ _ (by rw [Jkj (by omega)]; rfl)
 case o13 =>
  rw [JaV _ 0 (by rw [Jef]; omega)]
  exact Jhn 0 (fun n=>[iv n]) _ _ (by rw [Jiv (by omega)]; rfl)
 case o16=>rw [List.take_of_length_le (by rw [JeS]; omega)]
 case o18=>rw [List.take_of_length_le (by rw [Jef]; omega)]
 case o17=>rw [List.take_of_length_le (by rw [JeS]; omega)]; intro i _; rfl
 case o19=>rw [List.take_of_length_le (by rw [Jef]; omega)]; intro i _; rfl
 all_goals (first | omega | rfl | (simp only [inI]; omega))
theorem t56o (b:Book) (id:Nat):Ja4 Tryz.prog 56 (s56o b id):=to56 b _ rfl (by simp)
theorem w37 (b:Book)
  (o0:SoundB b->JaL b (Jbq b))
  (o1:SoundB b->JaL b (JaS b))
  (o2:SoundB b->(Jb3 b (Jbq b)).2=(Jlc b).lo)
  (o3:SoundB b->(Jb3 b (JaS b)).2=(Jlc b).hi) :
  Ja4 Tryz.prog 37 (s37 b):=by
 refine Ja7 Tryz.func37 rfl Tryz.call37 Jaw _ rfl rfl rfl rfl (Nat.le_of_ble_eq_true (by kernel_rfl)) (fun _ _ _ _ h=>h) ?_
 intro hpre C hC _ hE
 obtain ⟨P,w0,E0,av,hA,ro,df⟩:=C
 obtain ⟨rfl,rfl,rfl⟩:=hC
 refine Ja0 ?_
 refine zR [0,2] [0] (Ak 1 tv) ?_
 refine Ja0 ?_
 refine zC ([(1,CallSpec.eq (c37e b 16) [true])]) [0,2,3,4] [0,16,17] (Ak 1 (An (An (An (zr (AV.rp (cWk b))) tv) (An (t56o (b) (16)) (An hpre (Ak 1 (fun (i0:Env)=>tv))))) (Ak 5 tv))) ?_
 refine Ja0 ?_
 refine zC ([(2,CallSpec.eq (c37l b 80) [true,false])]) [0,2,4,6] [0,17] (Ak 2 (An (An (An (zr (AV.rp (cWk b))) (An (An (zr 1) (An (zr (Jbq b).length) (fun (i1:Nat)=>(fun (y2:i1 < (Jbq b).length)=>(zr ([iv ((Jbq b).getD i1 0)])))))) tv)) (An (t29o (b) (Jbq b) (80)) (An (An hpre (o0 hpre)) (Ak 1 (fun (i3:Env)=>tv))))) (Ak 5 tv))) ?_
 refine Ja0 ?_
 refine zC ([(2,CallSpec.eq (c37h b 144) [true,false])]) [2,6,8] [0] (Ak 2 (An (An (An (zr (AV.rp (cWk b))) (An (An (zr 1) (An (zr (JaS b).length) (fun (i4:Nat)=>(fun (y5:i4 < (JaS b).length)=>(zr ([iv ((JaS b).getD i4 0)])))))) tv)) (An (t29o (b) (JaS b) (144)) (An (An hpre (o1 hpre)) (Ak 1 (fun (i6:Env)=>tv))))) (Ak 5 tv))) ?_
 refine Ja0 ?_
 refine zR [2] [0] (Ak 4 tv) ?_
 refine Ja5 ?_
 exact zT [] (An (Ak 1 tv) (An (An (An (ci (o2 hpre)) (zr nilN)) (An (An (ci (o3 hpre)) (zr nilN)) tv)) (An (zr true) (An (zr true) (zr true)))))
theorem t37 (b:Book):Ja4 Tryz.prog 37 (s37 b):=by
 apply w37
 all_goals (intro hs)
 case o0=>exact Jn8 hs
 case o1=>exact Jlb hs
 all_goals rfl
abbrev q7i (b:Book) (ls:List Int) (Pq:Prop):Prop:=JaZ b/\ls.length<=60000->Pq
abbrev q7j (b:Book) (ls:List Int) (Pq:Prop):Prop:=q7i b ls ((!decide (Jam b ls true=0))=false->Pq)
theorem w13 (b:Book) (ls:List Int)
 (o0:q7i b ls ((!decide (Jam b ls true=0))=true->0=Jc0 b ls))
 (o1:q7j b ls ((JaR b && (true && JcF b ls))=true))
 (o2:q7j b ls (SoundB b))
 (o3:q7j b ls (JaL b ls))
 (o4:q7j b ls ((Jb3 b ls).2=Jc0 b ls))
 (o5:q7j b ls (0=Jam b ls true)) :
  Ja4 Tryz.prog 13 (s13 b ls):=by
 refine Ja7 Tryz.func13 rfl Tryz.call13 Jaw _ rfl rfl rfl rfl (Nat.le_of_ble_eq_true (by kernel_rfl)) (fun _ _ _ _ h=>h) ?_
 intro hpre C hC _ hE
 obtain ⟨P,w0,E0,av,hA,ro,df⟩:=C
 obtain ⟨rfl,rfl,rfl⟩:=hC
 refine Ja0 ?_
 refine zR [1,2] [0] (Ak 3 tv) ?_
 refine Ja0 ?_
 refine zC ([(2,CallSpec.eq (s28 b ls true) [true,true,true])]) [1,6,7] [] (Ak 2 (An (An (An (zr (AV.agg (cBk b))) (An (zr (Ja6 ls)) (An (zr (bv true)) tv))) (An (t28 (b) (ls) (true)) (An (An hpre.1 hpre.2) (Ak 1 (fun (i0:Env)=>tv))))) (Ak 5 tv))) ?_
 refine Ja0 ?_
 refine Ja0 ?_
 refine zR [1,6,7,17] [] (Ak 2 tv) ?_
 refine zI (!decide (Jam b ls true=0)) (fun y1 => ?_) (fun y1 => ?_)
 ·refine Ja0 ?_
  refine zR [4,5] [] (Ak 3 tv) ?_
  refine Ja5 ?_
  exact zT [] (An (Ak 2 tv) (An (An (An (ci (o0 hpre y1)) (zr nilN)) (An (An (zr (iv (Jam b ls true))) (zr nilN)) tv)) (An (zr true) (An (zr true) (zr true)))))
 ·refine Ja3 ?_
  refine Ja0 ?_
  refine zC ([(2,CallSpec.eq (c13 b ls 120) [false,true])]) [9] [] (Ak 2 (An (An (An (An (o1 hpre y1) (zr (cWk b))) (An (zr (Ja6 ls)) tv)) (An (t29o (b) (ls) (120)) (An (An (o2 hpre y1) (o3 hpre y1)) (Ak 1 (fun (i2:Env)=>tv))))) (Ak 5 tv))) ?_
  refine Ja0 ?_
  refine zR [4,5] [] (Ak 3 tv) ?_
  refine Ja5 ?_
  exact zT [] (An (Ak 2 tv) (An (An (An (ci (o4 hpre y1)) (zr nilN)) (An (An (ci (o5 hpre y1)) (zr nilN)) tv)) (An (zr true) (An (zr true) (zr true)))))
theorem t13 (b:Book) (ls:List Int):Ja4 Tryz.prog 13 (s13 b ls):=by
 apply w13
 all_goals (try delta q7i q7j)
 all_goals (intro hp h; rw [giv_ok] at h)
 case o0=>simp only [Bool.not_eq_true'] at h; unfold Jc0; rw [h]; rfl
 all_goals (simp only [Bool.not_eq_false'] at h; have h1:=giv_eq h; have hh:=h; rw [Bool.and_eq_true] at hh)
 case o1=>exact h
 case o2=>exact Jci hh.1
 case o3=>exact Jnn hh.2
 case o4=>unfold Jc0; rw [h]; rfl
 case o5=>exact h1.symm
abbrev q7k (b:Book) (Pq:Prop):Prop:=JaZ b->(!decide (JcZ b true=0))=true->Pq
abbrev q7l (b:Book) (Pq:Prop):Prop:=JaZ b->(!decide (JcZ b true=0))=false->Pq
theorem w22 (b:Book)
 (o0:q7k b (0=(JfP b).lo))
 (o1:q7k b (0=(JfP b).hi))
 (o2:q7k b (JcZ b true=Jas b))
 (o3:q7l b ((JaR b && true)=true))
 (o4:q7l b (SoundB b))
 (o5:q7l b ((Jlc b).lo=(JfP b).lo))
 (o6:q7l b ((Jlc b).hi=(JfP b).hi))
 (o7:q7l b (0=Jas b)) :
  Ja4 Tryz.prog 22 (s22 b):=by
 refine Ja7 Tryz.func22 rfl Tryz.call22 Jaw _ rfl rfl rfl rfl (Nat.le_of_ble_eq_true (by kernel_rfl)) (fun _ _ _ _ h=>h) ?_
 intro hpre C hC _ hE
 obtain ⟨P,w0,E0,av,hA,ro,df⟩:=C
 obtain ⟨rfl,rfl,rfl⟩:=hC
 refine Ja0 ?_
 refine zR [1,2] [0,8] (Ak 3 tv) ?_
 refine Ja0 ?_
 refine zC ([(1,CallSpec.eq (s36 b true) [true,true])]) [2,4,5] [8] (Ak 1 (An (An (An (zr (AV.agg (cBk b))) (An (zr (bv true)) tv)) (An (t36 (b) (true)) (An hpre (Ak 1 (fun (i0:Env)=>tv))))) (Ak 5 tv))) ?_
 refine Ja0 ?_
 refine Ja0 ?_
 refine zR [2,4,5,12] [8] (Ak 2 tv) ?_
 refine zI (!decide (JcZ b true=0)) (fun y1 => ?_) (fun y1 => ?_)
 ·refine Ja0 ?_
  refine zR [2,3] [8] (Ak 4 tv) ?_
  refine Ja5 ?_
  exact zT [] (An (Ak 2 tv) (An (An (An (An (ci (o0 hpre y1)) (zr nilN)) (An (An (ci (o1 hpre y1)) (zr nilN)) tv)) (An (An (ci (o2 hpre y1)) (zr nilN)) tv)) (An (zr true) (An (zr true) (zr true)))))
 ·refine Ja3 ?_
  refine Ja0 ?_
  refine zC ([(1,CallSpec.eq (c22 b) [false])]) [2,3] [8] (Ak 1 (An (An (An (An (o3 hpre y1) (zr (cWk b))) tv) (An (t37 (b)) (An (o4 hpre y1) (Ak 1 (fun (i2:Env)=>tv))))) (Ak 2 tv))) ?_
  refine Ja5 ?_
  exact zT [] (An (Ak 2 tv) (An (An (An (An (ci (o5 hpre y1)) (zr nilN)) (An (An (ci (o6 hpre y1)) (zr nilN)) tv)) (An (An (ci (o7 hpre y1)) (zr nilN)) tv)) (An (zr true) (An (zr true) (zr true)))))
theorem t22 (b:Book):Ja4 Tryz.prog 22 (s22 b):=by
 apply w22
 all_goals (try delta q7k q7l)
 all_goals (intro hp h; rw [Jix,chk_b] at h)
 case o0 | o1=>all_goals (simp only [Bool.not_eq_true'] at h; unfold JfP; rw [h]; rfl)
 case o2=>exact Jix b
 all_goals (simp only [Bool.not_eq_false'] at h)
 case o3=>rw [h]; rfl
 case o4=>exact Jci h
 case o5 | o6=>all_goals (unfold JfP; rw [h]; rfl)
 case o7=>unfold Jas; rw [h]; rfl
end Go.Ab
namespace Go.Sh
end Go.Sh
namespace Go.Sh
open Go.Ab
end Go.Sh
namespace Go.En
open Go Go.Ab Go.Sh
end Go.En
namespace Go.Ab
open Go Go.RowKit Go.Proofs Go.Sh Go.En
end Go.Ab
namespace Go.Ab
open Go Go.RowKit Go.Proofs Go.Sh Go.En
end Go.Ab
namespace Go.Sh
open Go.Ab
end Go.Sh
namespace Go.Ab
open Go Go.RowKit Go.Proofs Go.Sh Go.En
def ou30 (b:Book):OutSpec:={ args:=[vBk b],pre:=JaZ b,res := .agg [.vec 0,.vec 1,iv b.rate,iv b.rep,.vec 2],hout:=[(0,.vec 42 2 b.lines.length (fun i=>Jb6 (lnB b i))),(1,.vec 46 3 b.shown.length (fun i=>cShn (shB b i))),(2,.vec 69 4 b.ctrs.length (fun i=>cCtr (ctB b i)))] }
def s30o (b:Book) (id:Nat):CallSpec:=(ou30 b).at [(0,id),(1,id + 1),(2,id + 2)]
end Go.Ab
namespace Go.Ab
open Go Go.RowKit Go.Proofs Go.Sh Go.En
theorem wo30 (b:Book)
  (o0:JaZ b->0 + List.length (Book.lines b)<=65536)
  (o1:JaZ b->0 + List.length (Book.shown b)<=65536)
  (o2:JaZ b->0 + List.length (Book.ctrs b)<=65536)
  (o3:JaZ b->0 + b.lines.length=b.lines.length)
  (o4:JaZ b->0 + b.shown.length=b.shown.length)
  (o5:JaZ b->0 + b.ctrs.length=b.ctrs.length)
  (l:List (Nat × Nat)) (hl:l.map (·.1)=(OutSpec.hout (ou30 b)).map (·.1)) (hnd:(l.map (·.2)).Nodup) :
  Ja4 Tryz.prog 30 (OutSpec.at (ou30 b) l):=by
 refine Jbu Tryz.func30 rfl Tryz.call30 Jaw _ _ _ _ l rfl (Nat.le_of_ble_eq_true (by kernel_rfl)) hl hnd (by kernel_rfl) (by kernel_rfl) (by kernel_rfl) ?_
 intro hpre C hC hE
 obtain ⟨P,w0,E0,av,hA,ro,df⟩:=C
 obtain ⟨rfl,rfl,rfl⟩:=hC
 refine Ja0 ?_
 refine zR [1,2] [0,8] (Ak 2 tv) ?_
 refine Ja0 ?_
 refine zR [2] [8,40,72,136] (Ak 3 (An (o0 hpre) (Ak 3 (An (o1 hpre) (Ak 7 (An (o2 hpre) (Ak 2 tv))))))) ?_
 refine Ja5 ?_
 exact zO (ASt.mk [(2,AV.ptr 90 [])] [(90,OB.cells 39 [AV.vec 0,AV.vec 1,iv b.rate,iv b.rep,AV.vec 2]),(0,OB.vec 42 2 b.lines.length fun (i:Nat)=>Jb6 (lnB b i)),(1,OB.vec 46 3 b.shown.length fun (i:Nat)=>cShn (shB b i)),(2,OB.vec 69 4 b.ctrs.length fun (i:Nat)=>cCtr (ctB b i))] 100) (zE hE [] [(90,.same 8),(0,.same 40),(1,.same 72),(2,.same 136)] [] [] (An (An (An (zr (some (Src.same 8))) (zr nilP)) tv) (An (An (An (zr 39) (An (An (zr (some (Src.same 40))) (An (zr (some (Src.same 72))) (An (An (zr (iv b.rate)) (zr nilN)) (An (An (zr (iv b.rep)) (zr nilN)) (An (zr (some (Src.same 136))) tv))))) (zr true))) (An (An (zr 42) (An (zr 2) (An (o3 hpre) (fun (i0:Nat)=>(fun (y1:i0 < 0 + b.lines.length)=>(zr (Jb6 (lnB b i0)))))))) (An (An (zr 46) (An (zr 3) (An (o4 hpre) (fun (i2:Nat)=>(fun (y3:i2 < 0 + b.shown.length)=>(zr (cShn (shB b i2)))))))) (An (An (zr 69) (An (zr 4) (An (o5 hpre) (fun (i4:Nat)=>(fun (y5:i4 < 0 + b.ctrs.length)=>(zr (cCtr (ctB b i4)))))))) tv)))) (An (zr true) (zr true))))) (An (Ak 1 tv) (An (zr (AV.agg [AV.vec 0,AV.vec 1,iv b.rate,iv b.rep,AV.vec 2])) (An (zr (some (OB.vec 42 2 b.lines.length fun (i:Nat)=>Jb6 (lnB b i)))) (An (zr (some (OB.vec 46 3 b.shown.length fun (i:Nat)=>cShn (shB b i)))) (An (zr (some (OB.vec 69 4 b.ctrs.length fun (i:Nat)=>cCtr (ctB b i)))) tv)))))
theorem to30 (b:Book) (l:List (Nat × Nat)) (hl:l.map (·.1) = [0,1,2]) (hnd:(l.map (·.2)).Nodup):Ja4 Tryz.prog 30 ((ou30 b).at l):=by
 apply wo30 (l:=l) (hl:=hl) (hnd:=hnd)
 all_goals (rintro ⟨a1,a2,a3⟩; omega)
theorem t30o (b:Book) (id:Nat):Ja4 Tryz.prog 30 (s30o b id):=to30 b _ rfl (by simp)
section
variable {b:Book} {first:List Int}
end
end Go.Ab
namespace Go.Sh
open Go.Ab
def exB:Book:=⟨[⟨2,3⟩,⟨4,4⟩],[⟨0,1,0⟩,⟨0,1,2⟩,⟨0,2,0⟩,⟨1,2,0⟩,⟨1,5,1⟩],3,2,[⟨1,2,8,15⟩,⟨2,7,20,20⟩]⟩
structure NewC where
 ctr:Int
 more:Ctr
 cheap:Int
 room:Int
structure DearX where
 times:Int
 ctr:Int
end Go.Sh
namespace Go.En
open Go Go.Ab Go.Sh
end Go.En
namespace Go.Ab
open Go Go.RowKit Go.Proofs Go.Sh Go.En
def s38 (a d e:Int):CallSpec:={ args:=[iv a,iv d,iv e],res:=vShn ⟨a,d,e⟩ }
def s23:CallSpec:={ args:=[],res:=vBk exB }
def s23o (b:Book):CallSpec:={ args:=[],res:=vBk b,pre:=b=exB }
end Go.Ab
namespace Go.Ab
open Go Go.RowKit Go.Proofs Go.Sh Go.En
theorem w38 (a:Int) (d:Int) (e:Int) :
  Ja4 Tryz.prog 38 (s38 a d e):=by
 refine Ja7 Tryz.func38 rfl Tryz.call38 Jaw _ rfl rfl rfl rfl (Nat.le_of_ble_eq_true (by kernel_rfl)) (fun _ _ _ _ h=>h) ?_
 intro _ C hC _ hE
 obtain ⟨P,w0,E0,av,hA,ro,df⟩:=C
 obtain ⟨rfl,rfl,rfl⟩:=hC
 refine Ja0 ?_
 refine zR [0,1,2,6] [0] (Ak 1 tv) ?_
 refine Ja0 ?_
 refine zR [6] [0] (Ak 5 tv) ?_
 refine Ja5 ?_
 exact zT [] (An (Ak 1 tv) (An (An (An (zr (iv a)) (zr nilN)) (An (An (zr (iv d)) (zr nilN)) (An (An (zr (iv e)) (zr nilN)) tv))) (An (zr true) (An (zr true) (zr true)))))
theorem t38 (a d e:Int):Ja4 Tryz.prog 38 (s38 a d e):=by
 apply w38
theorem w23 
  (o0:∀ (i5:Nat),i5 < exB.lines.length->List.getD [[iv 2,iv 3],[iv 4,iv 4]] i5 (TI.za ti42)=Jb6 (lnB exB i5))
  (o1:∀ (i7:Nat),i7 < exB.shown.length->List.getD [[iv 0,iv 1,iv 0],[iv 0,iv 1,iv 2],[iv 0,iv 2,iv 0],[iv 1,iv 2,iv 0],[iv 1,iv 5,iv 1]] i7 (TI.za ti46)=cShn (shB exB i7))
  (o2:3=Book.rate exB)
  (o3:2=Book.rep exB)
  (o4:∀ (i9:Nat),i9 < exB.ctrs.length->List.getD [[iv 1,iv 2,iv 8,iv 15],[iv 2,iv 7,iv 20,iv 20]] i9 (TI.za ti69)=cCtr (ctB exB i9)) :
  Ja4 Tryz.prog 23 (s23):=by
 refine Ja7 Tryz.func23 rfl Tryz.call23 Jaw _ rfl rfl rfl rfl (Nat.le_of_ble_eq_true (by kernel_rfl)) (fun _ _ _ _ h=>h) ?_
 intro _ C hC _ hE
 obtain ⟨P,w0,E0,av,hA,ro,df⟩:=C
 obtain ⟨rfl,rfl,rfl⟩:=hC
 refine Ja0 ?_
 refine zR [0] [0] (Ak 1 tv) ?_
 refine Ja0 ?_
 refine zC ([(3,CallSpec.eq (s38 0 1 0) [true,true,true]),(4,CallSpec.eq (s38 0 1 2) [true,true,true]),(5,CallSpec.eq (s38 0 2 0) [true,true,true]),(6,CallSpec.eq (s38 1 2 0) [true,true,true]),(7,CallSpec.eq (s38 1 5 1) [true,true,true])]) [0] [0,24,72,96] (Ak 3 (An (An (An (zr (iv 0)) (An (zr (iv 1)) (An (zr (iv 0)) tv))) (An (t38 (0) (1) (0)) (Ak 2 (fun (i0:Env)=>tv)))) (An (An (An (zr (iv 0)) (An (zr (iv 1)) (An (zr (iv 2)) tv))) (An (t38 (0) (1) (2)) (Ak 2 (fun (i1:Env)=>tv)))) (An (An (An (zr (iv 0)) (An (zr (iv 2)) (An (zr (iv 0)) tv))) (An (t38 (0) (2) (0)) (Ak 2 (fun (i2:Env)=>tv)))) (An (An (An (zr (iv 1)) (An (zr (iv 2)) (An (zr (iv 0)) tv))) (An (t38 (1) (2) (0)) (Ak 2 (fun (i3:Env)=>tv)))) (An (An (An (zr (iv 1)) (An (zr (iv 5)) (An (zr (iv 1)) tv))) (An (t38 (1) (5) (1)) (Ak 2 (fun (i4:Env)=>tv)))) (Ak 6 tv))))))) ?_
 refine Ja5 ?_
 exact zT [24,72,96] (An (Ak 1 tv) (An (An (An (zr 2) (An (by decide:2=exB.lines.length) (fun (i5:Nat)=>(fun (y6:i5 < exB.lines.length)=>(o0 i5 y6))))) (An (An (zr 3) (An (by decide:5=exB.shown.length) (fun (i7:Nat)=>(fun (y8:i7 < exB.shown.length)=>(o1 i7 y8))))) (An (An (ci (o2)) (zr nilN)) (An (An (ci (o3)) (zr nilN)) (An (An (zr 4) (An (by decide:2=exB.ctrs.length) (fun (i9:Nat)=>(fun (y10:i9 < exB.ctrs.length)=>(o4 i9 y10))))) tv))))) (An (zr true) (An (zr true) (zr true)))))
theorem t23:Ja4 Tryz.prog 23 s23:=by
 apply w23
 case o0 =>
  intro i hi
  have:i=0 ∨ i=1:=by simp [exB] at hi; omega
  rcases this with rfl | rfl <;> rfl
 case o1 =>
  intro i hi
  have:i=0 ∨ i=1 ∨ i=2 ∨ i=3 ∨ i=4:=by simp [exB] at hi; omega
  rcases this with rfl | rfl | rfl | rfl | rfl <;> rfl
 case o4 =>
  intro i hi
  have:i=0 ∨ i=1:=by simp [exB] at hi; omega
  rcases this with rfl | rfl <;> rfl
 all_goals rfl
theorem t23o (b:Book):Ja4 Tryz.prog 23 (s23o b):=⟨t23.1,fun h=>by cases h; exact t23.2 trivial⟩
set_option maxRecDepth 4000
end Go.Ab
namespace Go.Sh
open Go.Ab
variable {f:Frm}
theorem JoR (h:farF f=false) (h2:Jbj f=true):Jcv f f.strips.length<=30:=by
 unfold farF at h
 rw [h2] at h
 simp only [Bool.or_eq_false_iff,Bool.true_and,decide_eq_false_iff_not] at h
 omega
theorem Jjx (f:Frm):(Jaj f).length<=6:=by
 unfold Jaj
 cases h:Jbj f with
 | false=>exact Nat.zero_le _
 | true =>
  rw [if_pos rfl]
  cases e:refP f with
  | none=>exact Nat.zero_le _
  | some x=>exact (Jp9 (Jds h) _ x e).2.2
theorem Jnp {n:Nat} {l:List Int}:Jbg l 0 ((n:Int) - 1)=true ↔ RisN n l:=by
 constructor
 ·intro h
  have hg:=fun k hk=>JkL h (k:=k) hk
  have hlt:∀ d i:Nat,i + d + 1 < l.length->l.getD i 0 < l.getD (i + d + 1) 0:=by
   intro d
   induction d with
   | zero=>intro i hi; have:=(hg (i + 1) hi).2.2 (Nat.succ_pos _); rw [Nat.add_sub_cancel] at this; exact this
   | succ d ih =>
    intro i hi
    have h1:=ih i (by omega)
    have h2:=(hg (i + d + 1 + 1) (by omega)).2.2 (Nat.succ_pos _)
    rw [Nat.add_sub_cancel] at h2
    rw [show i + (d + 1) + 1=i + d + 1 + 1 by omega]
    omega
  refine ⟨List.pairwise_iff_getElem.2 fun i j hi hj hij => ?_,fun x hx => ?_⟩
  ·have:=hlt (j - i - 1) i (by omega)
   rw [show i + (j - i - 1) + 1=j by omega,Jaf _ _ hi,Jaf _ _ hj] at this
   exact this
  ·obtain ⟨i,hi,rfl⟩:=List.getElem_of_mem hx
   have:=hg i hi
   rw [Jaf _ _ hi] at this
   omega
 ·intro h
  unfold Jbg
  rw [List.all_eq_true]
  intro i hi
  have hi:=List.mem_range.1 hi
  have h1:=h.2 _ (Jbc l 0 hi)
  unfold Jh8
  rw [Bool.and_eq_true,JaB]
  refine ⟨by omega,?_⟩
  by_cases h0:i=0
  ·subst h0; rfl
  ·have:=List.pairwise_iff_getElem.1 h.1 (i - 1) i (by omega) hi (by omega)
   rw [← Jaf l 0 hi,← Jaf l 0 (show i - 1 < l.length by omega)] at this
   rw [Bool.or_eq_true]
   right
   rw [Bool.not_eq_true',decide_eq_false_iff_not]
   omega
end Go.Sh
namespace Go.Sh
open Go.Ab
structure BilX where
 rate:Int
 out:List Int
def JdN (f:Frm) (r:Int) (ls:List Int) (n i:Nat):Piece:=if i < n then { pc f i with pence:=r * ls.getD i 0 } else pc f i
def payF (f:Frm) (r:Int) (ls:List Int):Frm:={ f with pieces:=(List.range f.pieces.length).map (JdN f r ls f.pieces.length) }
def JbO (i:Nat):Shn:=⟨i,i,0⟩
def Jdi (n:Int):Span:=⟨n,n⟩
def adB (r:Int) (ls:List Int):Book:=⟨ls.map Jdi,(List.range ls.length).map JbO,r,r,[]⟩
def Jap (b:Book) (out:List Int):Book:={ b with shown:=b.shown.filter fun s => !isIn out s.ad }
def remV (v:Nat->Int) (out:List Int):Nat->Int
 | 0=>0
 | i + 1=>remV v out i + if isIn out i then 0 else v i
def outV (v:Nat->Int) (out:List Int):Nat->Int
 | 0=>0
 | i + 1=>outV v out i + if isIn out i then v i else 0
theorem Jqt (v:Nat->Int) (out:List Int):∀ n,remV v out n + outV v out n=remV v [] n:=by
 intro n
 induction n with
 | zero=>rfl
 | succ n ih =>
  show (remV v out n + if isIn out n then 0 else v n) + (outV v out n + if isIn out n then v n else 0)=remV v [] n + if isIn [] (n:Int) then 0 else v n
  rw [← ih,show isIn [] (n:Int)=false from rfl]
  by_cases h:isIn out n=true
  ·rw [if_pos h,if_pos h,if_neg Bool.false_ne_true]; omega
  ·rw [if_neg h,if_neg h,if_neg Bool.false_ne_true]; omega
theorem JoS {l:List Int} {n:Int}:isIn l n=true ↔ n ∈ l:=by
 unfold isIn; rw [List.any_eq_true]
 constructor
 ·rintro ⟨x,h1,h2⟩; rw [of_decide_eq_true h2] at h1; exact h1
 ·exact fun h=>⟨n,h,decide_eq_true rfl⟩
theorem JoT (v:Nat->Int):∀ n,outV v [] n=0:=by
 intro n
 induction n with
 | zero=>rfl
 | succ n ih=>show outV v [] n + 0=0; rw [ih]; rfl
theorem Jnq (v:Nat->Int) {l:List Int} {x:Int} (hx:x ∉ l) (h0:0<=x):∀ n,outV v (l ++ [x]) n=outV v l n + if x < n then v x.toNat else 0:=by
 intro n
 induction n with
 | zero=>show (0:Int)=0 + _; rw [if_neg (by omega)]; rfl
 | succ n ih =>
  show (outV v (l ++ [x]) n + if isIn (l ++ [x]) n then v n else 0)=(outV v l n + if isIn l n then v n else 0) + _
  rw [ih]
  have e:isIn (l ++ [x]) (n:Int)=(isIn l n || decide (x=n)):=by unfold isIn; rw [List.any_append]; simp
  rw [e]
  by_cases hn:x=n
  ·have h1:isIn l (n:Int)=false:=by
    cases h:isIn l (n:Int) with
    | false=>rfl
    | true=>exact absurd (JoS.1 h) (hn ▸ hx)
   rw [h1,decide_eq_true hn,if_neg (by omega),if_pos (by rfl),if_neg Bool.false_ne_true,if_pos (by omega),show x.toNat=n by omega]; try omega
  ·rw [decide_eq_false hn,Bool.or_false]
   by_cases h2:x < n
   ·rw [if_pos h2,if_pos (show x < ((n + 1:Nat):Int) by omega)]; omega
   ·rw [if_neg h2,if_neg (show ¬ x < ((n + 1:Nat):Int) by omega)]; omega
theorem Jnr (f:Frm) {l:List Int} (h:RisN f.pieces.length l):Jau f l=outV (fun i=>(pc f i).pence) l f.pieces.length:=by
 induction l using Jim with
 | h0=>rw [JoT]; rfl
 | h1 l x ih =>
  obtain ⟨h1,h2⟩:=h
  rw [List.pairwise_append] at h1
  have hx:=h2 x (by simp)
  have hn:x ∉ l:=fun hm=>by have:=h1.2.2 x hm x (by simp); omega
  rw [Jnq _ hn hx.1,← ih ⟨h1.1,fun y hy=>h2 y (by simp [hy])⟩,if_pos hx.2]
  unfold Jau; rw [List.foldl_append]; rfl
theorem Jck (r:Int) (ls:List Int):(adB r ls).lines.length=ls.length:=by unfold adB; simp
theorem JfS (r:Int) (ls:List Int):(adB r ls).shown.length=ls.length:=by unfold adB; simp
theorem Jko (r:Int) (ls out:List Int) (a d:Int):Jcg (Jap (adB r ls) out) a d=(decide (a=d) && (decide (0<=a) && decide (a < ls.length)) && !isIn out a):=by
 rw [Bool.eq_iff_iff]
 simp only [Jcg,List.any_eq_true,Bool.and_eq_true,decide_eq_true_eq,Bool.not_eq_true']
 constructor
 ·rintro ⟨s,hs,e1,e2⟩
  obtain ⟨h1,h2⟩:=List.mem_filter.1 hs
  obtain ⟨i,hi,e⟩:=List.mem_map.1 h1
  have hi:=List.mem_range.1 hi
  subst e
  have e1:(i:Int)=a:=e1
  have e2:(i:Int)=d:=e2
  subst e1
  have h3:(!isIn out (i:Int))=true:=h2
  exact ⟨⟨by omega,by omega,by omega⟩,by simpa using h3⟩
 ·rintro ⟨⟨e,h0,h1⟩,h2⟩
  refine ⟨⟨a,a,0⟩,List.mem_filter.2 ⟨List.mem_map.2 ⟨a.toNat,List.mem_range.2 (by omega),?_⟩,by simpa using h2⟩,rfl,e⟩
  show (⟨(a.toNat:Int),(a.toNat:Int),0⟩:Shn)=_
  rw [show (a.toNat:Int)=a by omega]
theorem JoU (b:Book):Jap b []=b:=by
 unfold Jap
 have:b.shown.filter (fun s => !isIn [] s.ad)=b.shown:=List.filter_eq_self.2 fun s _=>rfl
 rw [this]
def JdO (b:Book) (ls:List Int) (d:Nat):Nat->Int
 | 0=>0
 | a + 1=>if Jcg b a d then JdO b ls d a + Jb1 b ls ⟨a,d⟩ else JdO b ls d a
def sgTo (b:Book) (ls:List Int):Nat->Int
 | 0=>0
 | d + 1=>sgTo b ls d + JdO b ls d b.lines.length
theorem Jkp (l m:List Int):(l ++ m).foldl (· + ·) 0=l.foldl (· + ·) 0 + m.foldl (· + ·) 0:=by
 rw [List.foldl_append,Jn5 m]
theorem JoV (b:Book) (ls:List Int) (d:Nat):∀ a,(((List.range a).filterMap fun (a:Nat)=>if Jcg b a d then some (⟨a,d⟩:Sday) else none).map (Jb1 b ls)).foldl (· + ·) 0=JdO b ls d a:=by
 intro a
 induction a with
 | zero=>rfl
 | succ a ih =>
  rw [List.range_succ,List.filterMap_append,List.map_append,Jkp,ih]
  show _=if Jcg b a d then _ else _
  cases h:Jcg b a d with
  | true=>simp [h]
  | false=>simp [h]
theorem JoW (b:Book) (ls:List Int):sgTo b ls 14=Jiu b ls:=by
 have h:∀ n,(((List.range n).flatMap (Jka b)).map (Jb1 b ls)).foldl (· + ·) 0=sgTo b ls n:=by
  intro n
  induction n with
  | zero=>rfl
  | succ n ih =>
   rw [List.range_succ,List.flatMap_append,List.map_append,Jkp,ih]
   show _=sgTo b ls n + JdO b ls n b.lines.length
   rw [← JoV b ls n b.lines.length]
   simp only [List.flatMap_cons,List.flatMap_nil,List.append_nil]
   rfl
 exact (h 14).symm
theorem JoX (r:Int) (ls out:List Int) (d:Nat) (hd:d < ls.length):∀ a,JdO (Jap (adB r ls) out) ls d a=if d < a then (if isIn out d then 0 else r * ls.getD d 0) else 0:=by
 intro a
 induction a with
 | zero=>rw [if_neg (by omega)]; rfl
 | succ a ih =>
  have e:JdO (Jap (adB r ls) out) ls d (a + 1)=if Jcg (Jap (adB r ls) out) a d then JdO (Jap (adB r ls) out) ls d a + Jb1 (Jap (adB r ls) out) ls ⟨a,d⟩ else JdO (Jap (adB r ls) out) ls d a:=rfl
  rw [e,ih,Jko]
  by_cases h:a=d
  ·subst h
   rw [decide_eq_true rfl,decide_eq_true (show (0:Int)<=(a:Int) by omega),decide_eq_true (show (a:Int) < ls.length by omega),if_neg (Nat.lt_irrefl _),if_pos (Nat.lt_succ_self _)]
   have h1:Jb1 (Jap (adB r ls) out) ls ⟨a,a⟩=r * ls.getD a 0:=by
    unfold Jb1 JeD
    split <;> rfl
   rw [h1]
   cases isIn out (a:Int) <;> simp
  ·rw [decide_eq_false (show ¬ (a:Int)=(d:Int) by omega),Bool.false_and,Bool.false_and,if_neg Bool.false_ne_true]
   by_cases h2:d < a
   ·rw [if_pos h2,if_pos (show d < a + 1 by omega)]
   ·rw [if_neg h2,if_neg (show ¬ d < a + 1 by omega)]
theorem JoY (r:Int) (ls out:List Int) (d:Nat) (hd:ls.length<=d):∀ a,JdO (Jap (adB r ls) out) ls d a=0:=by
 intro a
 induction a with
 | zero=>rfl
 | succ a ih =>
  have e:JdO (Jap (adB r ls) out) ls d (a + 1)=if Jcg (Jap (adB r ls) out) a d then JdO (Jap (adB r ls) out) ls d a + Jb1 (Jap (adB r ls) out) ls ⟨a,d⟩ else JdO (Jap (adB r ls) out) ls d a:=rfl
  rw [e,ih,Jko,if_neg]
  by_cases h:(a:Int)=d
  ·rw [decide_eq_false (show ¬ (a:Int) < ls.length by omega)]; simp
  ·rw [decide_eq_false h]; simp
theorem Jqu (r:Int) (ls out:List Int) (n:Nat) (hn:n<=ls.length):sgTo (Jap (adB r ls) out) ls n=remV (fun i=>r * ls.getD i 0) out n:=by
 have hl:(Jap (adB r ls) out).lines.length=ls.length:=Jck r ls
 induction n with
 | zero=>rfl
 | succ n ih =>
  show sgTo (Jap (adB r ls) out) ls n + JdO _ ls n (Jap (adB r ls) out).lines.length=remV _ out n + _
  rw [ih (by omega),hl,JoX r ls out n (by omega),if_pos (by omega)]
theorem JoZ (r:Int) (ls out:List Int) (k:Nat):sgTo (Jap (adB r ls) out) ls (ls.length + k)=remV (fun i=>r * ls.getD i 0) out ls.length:=by
 induction k with
 | zero=>exact Jqu r ls out _ (Nat.le_refl _)
 | succ k ih =>
  show sgTo (Jap (adB r ls) out) ls (ls.length + k) + JdO _ ls (ls.length + k) (Jap (adB r ls) out).lines.length=_
  rw [ih,JoY r ls out _ (by omega)]; omega
theorem sgl_un (r:Int) (ls out:List Int) (h:ls.length<=14):Jiu (Jap (adB r ls) out) ls=remV (fun i=>r * ls.getD i 0) out ls.length:=by
 rw [← JoW]
 have:=JoZ r ls out (14 - ls.length)
 rwa [show ls.length + (14 - ls.length)=14 by omega] at this
def okShs (n:Nat) (sh:List Shn):Bool:=(List.range sh.length).all fun i=>Ja1 (sh.getD i default).ad 0 ((n:Int) - 1) && Ja1 (sh.getD i default).day 0 13 && Ja1 (sh.getD i default).ed 0 2 && (List.range i).all fun k => !decide (sh.getD k default=sh.getD i default)
theorem shs_un (n:Nat) (hn:n<=3) (out:List Int):okShs n (((List.range n).map JbO).filter fun s => !isIn out s.ad)=true/\(((List.range n).map JbO).filter fun s => !isIn out s.ad).length<=3:=by
 have h:n=0 ∨ n=1 ∨ n=2 ∨ n=3:=by omega
 have r1:List.range 1 = [0]:=rfl
 have r2:List.range 2 = [0,1]:=rfl
 have r3:List.range 3 = [0,1,2]:=rfl
 have f0:(JbO 0).ad=0:=rfl
 have f1:(JbO 1).ad=1:=rfl
 have f2:(JbO 2).ad=2:=rfl
 rcases h with e | e | e | e <;> subst e
 ·exact ⟨rfl,Nat.zero_le _⟩
 ·rw [r1]; simp only [List.map_cons,List.map_nil,List.filter_cons,List.filter_nil,f0]
  cases isIn out 0 <;> decide
 ·rw [r2]; simp only [List.map_cons,List.map_nil,List.filter_cons,List.filter_nil,f0,f1]
  cases isIn out 0 <;> cases isIn out 1 <;> decide
 ·rw [r3]; simp only [List.map_cons,List.map_nil,List.filter_cons,List.filter_nil,f0,f1,f2]
  cases isIn out 0 <;> cases isIn out 1 <;> cases isIn out 2 <;> decide
theorem Jns {r:Int} {ls:List Int} (out:List Int) (h:JaR (adB r ls)=true):JaR (Jap (adB r ls) out)=true:=by
 unfold JaR at h ⊢
 simp only [Bool.and_eq_true] at h ⊢
 obtain ⟨⟨⟨k1,k2⟩,k3⟩,k4⟩:=h
 unfold JdH at k1 ⊢
 simp only [Bool.and_eq_true,decide_eq_true_eq] at k1 ⊢
 have hl:=Jck r ls
 obtain ⟨s1,s2⟩:=shs_un ls.length (by omega) out
 have e:(Jap (adB r ls) out).shown=((List.range ls.length).map JbO).filter fun s => !isIn out s.ad:=rfl
 refine ⟨⟨⟨⟨⟨⟨⟨k1.1.1.1.1,?_⟩,k1.1.1.2⟩,k1.1.2⟩,k1.2⟩,k2⟩,?_⟩,k4⟩
 ·rw [e]; omega
 ·have s3:okShs (Jap (adB r ls) out).lines.length (Jap (adB r ls) out).shown=true:=by
   rw [show (Jap (adB r ls) out).lines.length=ls.length from hl]; exact s1
  exact s3
theorem Jeg {r:Int} {ls:List Int} (out:List Int) (h:Jg5 (adB r ls) ls=true):Jg5 (Jap (adB r ls) out) ls=true:=h
theorem Jp0 {r:Int} {ls:List Int} (h:∀ i,i < ls.length->Ja1 (ls.getD i 0) 0 9=true):Jg5 (adB r ls) ls=true:=by
 unfold Jg5
 rw [Bool.and_eq_true]
 refine ⟨decide_eq_true (Jck r ls).symm,List.all_eq_true.2 fun x hx => ?_⟩
 obtain ⟨i,hi,e⟩:=List.getElem_of_mem hx
 have:=h i hi
 rw [Jaf _ _ hi,e] at this
 exact this
theorem Jnt {r:Int} {ls:List Int} (out:List Int) (h1:JaR (adB r ls)=true) (h2:Jg5 (adB r ls) ls=true):(Jb3 (Jap (adB r ls) out) ls).2=remV (fun i=>r * ls.getD i 0) out ls.length:=by
 have hs:=Jci (Jns out h1)
 have hl:=hs.lines
 have e:(Jap (adB r ls) out).lines.length=ls.length:=Jck r ls
 rw [Jn7 hs (Jeb (Jeg out h2)) rfl,sgl_un r ls out (by omega)]
theorem JfT (f:Frm) (r:Int) (ls:List Int):(payF f r ls).pieces.length=f.pieces.length:=by unfold payF; simp
theorem Jph (f:Frm) (r:Int) (ls:List Int) {i:Nat} (h:i < f.pieces.length):pc (payF f r ls) i = { pc f i with pence:=r * ls.getD i 0 }:=by
 have e:(payF f r ls).pieces=(List.range f.pieces.length).map (JdN f r ls f.pieces.length):=rfl
 unfold pc
 rw [e,Jaf _ _ (by simpa using h)]
 rw [List.getElem_map,List.getElem_range]
 unfold JdN; rw [if_pos h]; rfl
theorem Jp1 {v w:Nat->Int} {out:List Int}:∀ n,(∀ i,i < n->v i=w i)->outV v out n=outV w out n:=by
 intro n
 induction n with
 | zero=>intro _; rfl
 | succ n ih=>intro h; show outV v out n + _=outV w out n + _; rw [ih fun i hi=>h i (by omega),h n (by omega)]
theorem Jgy {f:Frm} {r:Int} {ls out:List Int} (hn:ls.length=f.pieces.length) (h1:JaR (adB r ls)=true) (h2:Jg5 (adB r ls) ls=true) (ho:RisN (payF f r ls).pieces.length out):(Jb3 (adB r ls) ls).2 - (Jb3 (Jap (adB r ls) out) ls).2=Jau (payF f r ls) out:=by
 have e0:=Jnt [] h1 h2
 rw [JoU] at e0
 rw [e0,Jnt out h1 h2,Jnr _ ho,JfT,← Jqt _ out,hn]
 have:=Jp1 (v:=fun i=>(pc (payF f r ls) i).pence) (w:=fun i=>r * ls.getD i 0) (out:=out) f.pieces.length fun i hi=>by
  show (pc (payF f r ls) i).pence=_
  rw [Jph f r ls hi]
 rw [this]; omega
end Go.Sh
namespace Go.En
open Go Go.Ab Go.Sh
def cBil (x:BilX):List AV:=[iv x.rate,Ja6 x.out]
abbrev vBil (x:BilX):AV := .agg (cBil x)
end Go.En
namespace Go.Ab
open Go Go.RowKit Go.Proofs Go.Sh Go.En
def unTo (b:Book) (out:List Int) (i:Nat):List Shn:=(b.shown.take i).filter fun s => !isIn out s.ad
abbrev rowQ (l:List Shn):OB := .vec 46 3 l.length (fun i=>cShn (l.getD i default))
def s14 (b:Book) (out:List Int):CallSpec:={ args:=[vBk b,Ja6 out],res:=vBk (Jap b out),pre:=JaZ b/\out.length<=big }
def c14 (b:Book) (out:List Int) (id:Nat):CallSpec:=s30o b id
def h14 (b:Book) (out:List Int):Hint:={ X:=Nat,M:=fun i=>[(6,iv i)],H:=fun i=>[(32,.cells 39 [.vec 24,.vec 5000,iv b.rate,iv b.rep,.vec 26]),(5000,rowQ (unTo b out i))],I:=fun i=>i<=b.shown.length,mu:=fun i=>b.shown.length - i,x0:=(0:Nat),nx:=fun i=>i + 1 }
def sw6 (f o:Frm) (b:Book):CallSpec:={ args:=[],res:=bv true,pre:=(f=exP/\o=exO)/\b=exB }
def s6:CallSpec:={ args:=[],res:=bv true }
def c6a (f o:Frm) (b:Book):CallSpec:=s21o f o
def c6b (f o:Frm) (b:Book):CallSpec:=s23o b
def s3 (f:Frm) (ls:List Int) (x:BilX):CallSpec:={ args:=[vFrm f,Ja6 ls,vBil x],res:=bv true,pre:=Jba f/\ls.length<=big/\x.out.length<=big }
def c3o (f:Frm) (ls:List Int) (x:BilX) (id:Nat):CallSpec:=s7o f id
def h3 (f:Frm) (ls:List Int) (x:BilX):Hint:={ X:=Nat,M:=fun i=>[(9,iv i)],H:=fun i=>[(249,.vec 44 3 f.pieces.length (fun j=>JaD (JdN f x.rate ls i j))),(312,.cells 39 [.vec 5000,.vec 5001,iv x.rate,iv x.rate,.lit (.slice none 0 0)]),(5000,.vec 42 2 i (fun j=>Jb6 (Jdi (ls.getD j 0)))),(5001,.vec 46 3 i (fun j=>cShn (JbO j)))],I:=fun i=>i<=ls.length /\ ∀ j,j < i->Ja1 (ls.getD j 0) 0 9=true,mu:=fun i=>ls.length - i,x0:=(0:Nat),nx:=fun i=>i + 1 }
def c3a (f:Frm) (ls:List Int) (x:BilX):CallSpec:=s13 (adB x.rate ls) ls
def c3l (f:Frm) (ls:List Int) (x:BilX):CallSpec:=s13 (Jap (adB x.rate ls) (Jaj (payF f x.rate ls))) ls
def c3x (f:Frm) (ls:List Int) (x:BilX):CallSpec:=s13 (Jap (adB x.rate ls) x.out) ls
def e3 (f:Frm) (ls:List Int) (x:BilX):List (Nat × OB):=[(312,.cells 39 (cBk (adB x.rate ls))),(256,.cells 26 (cFrm (payF f x.rate ls)))]
end Go.Ab
namespace Go.Ab
open Go Go.RowKit Go.Proofs Go.Sh Go.En
abbrev q86 (b:Book) (out:List Int) (Pq:Prop):Prop:=JaZ b/\List.length out <= big->Pq
abbrev q87 (b:Book) (x1:Nat) (Pq:Prop):Prop:=x1<=b.shown.length->Pq
abbrev q88 (b:Book) (x1:Nat) (Pq:Prop):Prop:=q87 b x1 (decide ((x1:Int) < (↑(b.shown.length):Int))=true->Pq)
abbrev q89 (b:Book) (out:List Int) (x1:Nat) (Pq:Prop):Prop:=q88 b x1 ((!isIn out (shB b x1).ad)=true->Pq)
abbrev q8a (b:Book) (out:List Int) (x1:Nat) (Pq:Prop):Prop:=q88 b x1 ((!isIn out (shB b x1).ad)=false->Pq)
abbrev q8b (b:Book) (x1:Nat) (Pq:Prop):Prop:=q87 b x1 (decide ((x1:Int) < (↑(b.shown.length):Int))=false->Pq)
theorem w14 (b:Book) (out:List Int)
 (o0:q86 b out (0=(↑0:Int)))
 (o1:q86 b out (0<=b.shown.length))
 (o2:q86 b out (∀ (x1:Nat),q88 b x1 (0<=(x1:Int))))
 (o3:q86 b out (∀ (x1:Nat),q88 b x1 ((x1:Int) < (↑(b.shown.length):Int))))
 (o4:q86 b out (∀ (x1:Nat),q89 b out x1 (0<=(x1:Int))))
 (o5:q86 b out (∀ (x1:Nat),q89 b out x1 ((x1:Int) < (↑(b.shown.length):Int))))
 (o6:q86 b out (∀ (x1:Nat),q89 b out x1 ((List.filter (fun (s:Shn) => !isIn out s.ad) (List.take x1 b.shown)).length + 1<=65536)))
 (o7:q86 b out (∀ (x1:Nat),q89 b out x1 (inI ((x1:Int) + 1))))
 (o8:q86 b out (∀ (x1:Nat),q89 b out x1 ((x1:Int) + 1=(↑(x1 + 1):Int))))
 (o9:q86 b out (∀ (x1:Nat),q89 b out x1 ((List.filter (fun (s:Shn) => !isIn out s.ad) (List.take x1 b.shown)).length + 1=(List.filter (fun (s:Shn) => !isIn out s.ad) (List.take (x1 + 1) b.shown)).length)))
 (o10:q86 b out (∀ (x1:Nat),q89 b out x1 (∀ (i5:Nat),i5 < (List.filter (fun (s:Shn) => !isIn out s.ad) (List.take x1 b.shown)).length + 1->catF (List.filter (fun (s:Shn) => !isIn out s.ad) (List.take x1 b.shown)).length (fun (i:Nat)=>cShn ((List.filter (fun (s:Shn) => !isIn out s.ad) (List.take x1 b.shown)).getD i default)) (fun (j:Nat)=>List.getD [[iv (shB b x1).ad,iv (shB b x1).day,iv (shB b x1).ed]] j (TI.za ti46)) i5=cShn ((List.filter (fun (s:Shn) => !isIn out s.ad) (List.take (x1 + 1) b.shown)).getD i5 default))))
 (o11:q86 b out (∀ (x1:Nat),q89 b out x1 (x1 + 1<=b.shown.length)))
 (o12:q86 b out (∀ (x1:Nat),q89 b out x1 (b.shown.length - (x1 + 1) < b.shown.length - x1)))
 (o13:q86 b out (∀ (x1:Nat),q8a b out x1 (inI ((x1:Int) + 1))))
 (o14:q86 b out (∀ (x1:Nat),q8a b out x1 ((x1:Int) + 1=(↑(x1 + 1):Int))))
 (o15:q86 b out (∀ (x1:Nat),q8a b out x1 ((List.filter (fun (s:Shn) => !isIn out s.ad) (List.take x1 b.shown)).length=(List.filter (fun (s:Shn) => !isIn out s.ad) (List.take (x1 + 1) b.shown)).length)))
 (o16:q86 b out (∀ (x1:Nat),q8a b out x1 (∀ (i7:Nat),i7 < (List.filter (fun (s:Shn) => !isIn out s.ad) (List.take x1 b.shown)).length->cShn ((List.filter (fun (s:Shn) => !isIn out s.ad) (List.take x1 b.shown)).getD i7 default)=cShn ((List.filter (fun (s:Shn) => !isIn out s.ad) (List.take (x1 + 1) b.shown)).getD i7 default))))
 (o17:q86 b out (∀ (x1:Nat),q8a b out x1 (x1 + 1<=b.shown.length)))
 (o18:q86 b out (∀ (x1:Nat),q8a b out x1 (b.shown.length - (x1 + 1) < b.shown.length - x1)))
 (o19:q86 b out (∀ (x1:Nat),q8b b x1 (b.lines.length=(Jap b out).lines.length)))
 (o20:q86 b out (∀ (x1:Nat),q8b b x1 (∀ (i9:Nat),i9 < (Jap b out).lines.length->Jb6 (lnB b i9)=Jb6 (lnB (Jap b out) i9))))
 (o21:q86 b out (∀ (x1:Nat),q8b b x1 ((List.filter (fun (s:Shn) => !isIn out s.ad) (List.take x1 b.shown)).length=(Jap b out).shown.length)))
 (o22:q86 b out (∀ (x1:Nat),q8b b x1 (∀ (i11:Nat),i11 < (Jap b out).shown.length->cShn ((List.filter (fun (s:Shn) => !isIn out s.ad) (List.take x1 b.shown)).getD i11 default)=cShn (shB (Jap b out) i11))))
 (o23:q86 b out (∀ (x1:Nat),q8b b x1 (b.rate=(Jap b out).rate)))
 (o24:q86 b out (∀ (x1:Nat),q8b b x1 (b.rep=(Jap b out).rep)))
 (o25:q86 b out (∀ (x1:Nat),q8b b x1 (b.ctrs.length=(Jap b out).ctrs.length)))
 (o26:q86 b out (∀ (x1:Nat),q8b b x1 (∀ (i13:Nat),i13 < (Jap b out).ctrs.length->cCtr (ctB b i13)=cCtr (ctB (Jap b out) i13)))) :
  Ja4 Tryz.prog 14 (s14 b out):=by
 refine Ja7 Tryz.func14 rfl Tryz.call14 Jaw _ rfl rfl rfl rfl (Nat.le_of_ble_eq_true (by kernel_rfl)) (fun _ _ _ _ h=>h) ?_
 intro hpre C hC _ hE
 obtain ⟨P,w0,E0,av,hA,ro,df⟩:=C
 obtain ⟨rfl,rfl,rfl⟩:=hC
 refine Ja0 ?_
 refine zR [1,2,4] [0,8] (Ak 2 tv) ?_
 refine Ja0 ?_
 refine zC ([(1,CallSpec.eq (c14 b out 24) [true])]) [1,2,4,5] [0,8,32,24,25,26] (Ak 1 (An (An (An (zr (AV.agg (cBk b))) tv) (An (t30o (b) (24)) (An hpre.1 (Ak 1 (fun (i0:Env)=>tv))))) (Ak 2 tv))) ?_
 refine Ja0 ?_
 refine zR [1,2,4,5] [0,8,32,24,26] (Ak 2 tv) ?_
 refine Ja0 ?_
 refine Ja0 ?_
 refine zR [1,2,4,5,6] [0,8,32,24,26] (Ak 1 tv) ?_
 refine Ja2 ?_
 refine zL (Hint.ann (h14 b out) [(1,Ja6 out),(2,AV.ptr 0 []),(4,AV.ptr 8 []),(5,AV.ptr 32 [])] [(0,OB.cells 39 (cBk b)),(8,OB.cells 39 [nilv,nilv,iv 0,iv 0,nilv]),(24,OB.vec 42 2 b.lines.length fun (i:Nat)=>Jb6 (lnB b i)),(26,OB.vec 69 4 b.ctrs.length fun (i:Nat)=>cCtr (ctB b i))] 10072) (zE hE [] [(0,.same 0),(8,.same 8),(32,.same 32),(24,.same 24),(5000,.nil),(26,.same 26)] [1] [0,8,24,26] (An (An (An (zr (Ja6 out)) (zr true)) (An (An (zr (some (Src.same 0))) (zr nilP)) (An (An (zr (some (Src.same 8))) (zr nilP)) (An (An (zr (some (Src.same 32))) (zr nilP)) (An (An (ci (o0 hpre)) (zr nilN)) tv))))) (An (An (An (zr (OB.cells 39 (cBk b))) (zr true)) (An (An (zr (OB.cells 39 [nilv,nilv,iv 0,iv 0,nilv])) (zr true)) (An (An (zr (OB.vec 42 2 b.lines.length fun (i:Nat)=>Jb6 (lnB b i))) (zr true)) (An (An (zr (OB.vec 69 4 b.ctrs.length fun (i:Nat)=>cCtr (ctB b i))) (zr true)) (An (An (zr 39) (An (An (zr (some (Src.same 24))) (An (zr (some Src.nil)) (An (An (zr (iv b.rate)) (zr nilN)) (An (An (zr (iv b.rep)) (zr nilN)) (An (zr (some (Src.same 26))) tv))))) (zr true))) (An (zr 0) tv)))))) (An (zr true) (zr true))))) (o1 hpre) (fun (x1:Nat) hx1 => ?_)
 refine Ja0 ?_
 refine Ja0 ?_
 refine zR [1,2,4,5,6,14] [0,8,32,24,5000,26] (Ak 5 tv) ?_
 refine zI (decide ((x1:Int) < (↑(b.shown.length):Int))) (fun y2 => ?_) (fun y2 => ?_)
 ·refine Ja3 ?_
  refine Ja0 ?_
  refine Ja2 ?_
  refine Ja0 ?_
  refine zC ([(7,CallSpec.eq (s31 out (shB b x1).ad) [true,true])]) [1,2,4,5,6,25] [0,8,32,24,5000,26] (Ak 4 (An (An (o2 hpre x1 hx1 y2) (o3 hpre x1 hx1 y2)) (Ak 2 (An (An (An (zr (Ja6 out)) (An (zr (iv (shB b x1).ad)) tv)) (An (t31 (out) (shB b x1).ad) (An hpre.2 (Ak 1 (fun (i3:Env)=>tv))))) (Ak 1 tv))))) ?_
  refine zI (!isIn out (shB b x1).ad) (fun y4 => ?_) (fun y4 => ?_)
  ·refine zR [1,2,4,5,6] [0,8,32,24,10248,26] (Ak 5 (An (An (o4 hpre x1 hx1 y2 y4) (o5 hpre x1 hx1 y2 y4)) (Ak 2 (An (o6 hpre x1 hx1 y2 y4) (Ak 2 tv))))) ?_
   refine zR [1,2,4,5,6] [0,8,32,24,10248,26] (Ak 1 (An (o7 hpre x1 hx1 y2 y4) (Ak 1 tv))) ?_
   exact zn (zE hE [] [(0,.same 0),(8,.same 8),(32,.same 32),(24,.same 24),(5000,.same 10248),(26,.same 26)] [1] [0,8,24,26] (An (An (An (zr (Ja6 out)) (zr true)) (An (An (zr (some (Src.same 0))) (zr nilP)) (An (An (zr (some (Src.same 8))) (zr nilP)) (An (An (zr (some (Src.same 32))) (zr nilP)) (An (An (ci (o8 hpre x1 hx1 y2 y4)) (zr nilN)) tv))))) (An (An (An (zr (OB.cells 39 (cBk b))) (zr true)) (An (An (zr (OB.cells 39 [nilv,nilv,iv 0,iv 0,nilv])) (zr true)) (An (An (zr (OB.vec 42 2 b.lines.length fun (i:Nat)=>Jb6 (lnB b i))) (zr true)) (An (An (zr (OB.vec 69 4 b.ctrs.length fun (i:Nat)=>cCtr (ctB b i))) (zr true)) (An (An (zr 39) (An (An (zr (some (Src.same 24))) (An (zr (some (Src.same 10248))) (An (An (zr (iv b.rate)) (zr nilN)) (An (An (zr (iv b.rep)) (zr nilN)) (An (zr (some (Src.same 26))) tv))))) (zr true))) (An (An (zr 46) (An (zr 3) (An (o9 hpre x1 hx1 y2 y4) (fun (i5:Nat)=>(fun (y6:i5 < (List.filter (fun (s:Shn) => !isIn out s.ad) (List.take x1 b.shown)).length + 1)=>(o10 hpre x1 hx1 y2 y4 i5 y6)))))) tv)))))) (An (zr true) (zr true))))) (o11 hpre x1 hx1 y2 y4) (o12 hpre x1 hx1 y2 y4)
  ·refine Ja3 ?_
   refine zR [1,2,4,5,6] [0,8,32,24,5000,26] (Ak 1 (An (o13 hpre x1 hx1 y2 y4) (Ak 1 tv))) ?_
   exact zn (zE hE [] [(0,.same 0),(8,.same 8),(32,.same 32),(24,.same 24),(5000,.same 5000),(26,.same 26)] [1] [0,8,24,26] (An (An (An (zr (Ja6 out)) (zr true)) (An (An (zr (some (Src.same 0))) (zr nilP)) (An (An (zr (some (Src.same 8))) (zr nilP)) (An (An (zr (some (Src.same 32))) (zr nilP)) (An (An (ci (o14 hpre x1 hx1 y2 y4)) (zr nilN)) tv))))) (An (An (An (zr (OB.cells 39 (cBk b))) (zr true)) (An (An (zr (OB.cells 39 [nilv,nilv,iv 0,iv 0,nilv])) (zr true)) (An (An (zr (OB.vec 42 2 b.lines.length fun (i:Nat)=>Jb6 (lnB b i))) (zr true)) (An (An (zr (OB.vec 69 4 b.ctrs.length fun (i:Nat)=>cCtr (ctB b i))) (zr true)) (An (An (zr 39) (An (An (zr (some (Src.same 24))) (An (zr (some (Src.same 5000))) (An (An (zr (iv b.rate)) (zr nilN)) (An (An (zr (iv b.rep)) (zr nilN)) (An (zr (some (Src.same 26))) tv))))) (zr true))) (An (An (zr 46) (An (zr 3) (An (o15 hpre x1 hx1 y2 y4) (fun (i7:Nat)=>(fun (y8:i7 < (List.filter (fun (s:Shn) => !isIn out s.ad) (List.take x1 b.shown)).length)=>(o16 hpre x1 hx1 y2 y4 i7 y8)))))) tv)))))) (An (zr true) (zr true))))) (o17 hpre x1 hx1 y2 y4) (o18 hpre x1 hx1 y2 y4)
 ·refine Jaa ?_
  refine Ja0 ?_
  refine zR [4] [8,24,5000,26] (Ak 2 tv) ?_
  refine Ja5 ?_
  exact zT [24,5000,26] (An (Ak 1 tv) (An (An (An (zr 2) (An (o19 hpre x1 hx1 y2) (fun (i9:Nat)=>(fun (y10:i9 < (Jap b out).lines.length)=>(o20 hpre x1 hx1 y2 i9 y10))))) (An (An (zr 3) (An (o21 hpre x1 hx1 y2) (fun (i11:Nat)=>(fun (y12:i11 < (Jap b out).shown.length)=>(o22 hpre x1 hx1 y2 i11 y12))))) (An (An (ci (o23 hpre x1 hx1 y2)) (zr nilN)) (An (An (ci (o24 hpre x1 hx1 y2)) (zr nilN)) (An (An (zr 4) (An (o25 hpre x1 hx1 y2) (fun (i13:Nat)=>(fun (y14:i13 < (Jap b out).ctrs.length)=>(o26 hpre x1 hx1 y2 i13 y14))))) tv))))) (An (zr true) (An (zr true) (zr true)))))
theorem Jpi {b:Book} {out:List Int} {i:Nat} (hi:i < b.shown.length) (h:isIn out (shB b i).ad=false):unTo b out (i + 1)=unTo b out i ++ [shB b i]:=by
 unfold unTo; rw [JaV _ default hi,List.filter_append,List.filter_cons_of_pos (by rw [show isIn out (b.shown.getD i default).ad=false from h]; rfl)]; rfl
theorem Jpj {b:Book} {out:List Int} {i:Nat} (hi:i < b.shown.length) (h:isIn out (shB b i).ad=true):unTo b out (i + 1)=unTo b out i:=by
 unfold unTo; rw [JaV _ default hi,List.filter_append,List.filter_cons_of_neg (by rw [show isIn out (b.shown.getD i default).ad=true from h]; exact Bool.false_ne_true),List.filter_nil,List.append_nil]
theorem Jp2 (b:Book) (out:List Int) (i:Nat):(unTo b out i).length<=i:=by
 unfold unTo; exact Nat.le_trans (List.length_filter_le _ _) (by rw [List.length_take]; omega)
theorem Jkq (b:Book) (out:List Int) {i:Nat} (h:i=b.shown.length):unTo b out i=(Jap b out).shown:=by subst h; unfold unTo Jap; rw [List.take_length]
theorem t14 (b:Book) (out:List Int):Ja4 Tryz.prog 14 (s14 b out):=by
 apply w14
 all_goals (try delta q86 q87 q88 q89 q8a q8b)
 all_goals (rintro ⟨⟨a1,a2,a3⟩,ho⟩)
 case o0=>rfl
 case o1=>omega
 all_goals (intro x hx hl; simp only [decide_eq_true_eq,decide_eq_false_iff_not] at hl)
 all_goals (have htl:=Jp2 b out x; try (first | omega | rfl | (intro i _; rfl)))
 case o21=>exact congrArg List.length (Jkq b out (by omega))
 case o22=>intro i _; exact congrArg (fun l=>cShn (List.getD l i default)) (Jkq b out (by omega))
 all_goals (intro hc; simp only [Bool.not_eq_true',Bool.not_eq_false'] at hc)
 case o9=>have:=congrArg List.length (Jpi (by omega) hc); rw [List.length_append] at this; exact this.symm
 case o10 =>
  intro i hi
  have e:((b.shown.take (x + 1)).filter fun s => !isIn out s.ad)=unTo b out x ++ [shB b x]:=Jpi (by omega) hc
  rw [e]
  exact Jc4 _ _ default cShn rfl (fun _ _=>rfl) rfl hi
 case o15=>exact congrArg List.length (Jpj (by omega) hc).symm
 case o16=>intro i _; exact congrArg (fun l=>cShn (List.getD l i default)) (Jpj (by omega) hc).symm
 all_goals (first | omega | (simp only [inI]; omega) | (unfold unTo at htl; omega))
theorem w6 (f:Frm) (o:Frm) (b:Book)
  (o0:(f=exP/\o=exO)/\b=exB->f=exP)
  (o1:(f=exP/\o=exO)/\b=exB->o=exO)
  (o2:(f=exP/\o=exO)/\b=exB->Jai f)
  (o3:(f=exP/\o=exO)/\b=exB->JaZ b)
  (o4:(f=exP/\o=exO)/\b=exB->(bif bif bif decide (Ja8 f=0) then decide (Jas b=0) else false then decide (JbW f=4) else false then decide ((JfP b).lo=26) && (decide ((JfP b).hi=29) && true) else false)=true) :
  Ja4 Tryz.prog 6 (sw6 f o b):=by
 refine Ja7 Tryz.func6 rfl Tryz.call6 Jaw _ rfl rfl rfl rfl (Nat.le_of_ble_eq_true (by kernel_rfl)) (fun _ _ _ _ h=>h) ?_
 intro hpre C hC _ hE
 obtain ⟨P,w0,E0,av,hA,ro,df⟩:=C
 obtain ⟨rfl,rfl,rfl⟩:=hC
 refine Ja0 ?_
 refine zR [] [] (Ak 1 tv) ?_
 refine Ja0 ?_
 refine zC ([(0,CallSpec.eq (c6a f o b) [])]) [1] [40] (An (Ak 1 (An (t21o (f) (o)) (An (An (o0 hpre) (o1 hpre)) (Ak 1 (fun (i0:Env)=>tv))))) (Ak 7 tv)) ?_
 refine Ja0 ?_
 refine zC ([(1,CallSpec.eq (s11 f) [true])]) [3,4] [] (Ak 1 (An (An (An (zr (AV.agg (cFrm f))) tv) (An (t11 (f)) (An (o2 hpre) (Ak 1 (fun (i1:Env)=>tv))))) (Ak 5 tv))) ?_
 refine Ja0 ?_
 refine zC ([(0,CallSpec.eq (c6b f o b) []),(1,CallSpec.eq (s22 b) [true])]) [3,4,5,6] [168] (An (Ak 1 (An (t23o (b)) (An hpre.2 (Ak 1 (fun (i2:Env)=>tv))))) (An (An (An (zr (AV.agg (cBk b))) tv) (An (t22 (b)) (An (o3 hpre) (Ak 1 (fun (i3:Env)=>tv))))) (Ak 6 tv))) ?_
 refine Ja0 ?_
 refine zR [0] [] (Ak 3 (An (fun (y4:decide (Ja8 f=0)=true)=>(An (Ak 1 tv) tv)) (An (fun (y5:decide (Ja8 f=0)=true)=>(An (An (fun (y6:decide (Ja8 f=0)=true)=>y5) (Ak 1 tv)) tv)) (An (An (fun (y7:decide (Ja8 f=0)=true)=>y7) (fun (y8:decide (Ja8 f=0)=false)=>tv)) (Ak 1 (An (fun (y9:(bif decide (Ja8 f=0) then decide (Jas b=0) else false)=true)=>(An (Ak 1 tv) tv)) (An (fun (y10:(bif decide (Ja8 f=0) then decide (Jas b=0) else false)=true)=>(An (An (fun (y11:(bif decide (Ja8 f=0) then decide (Jas b=0) else false)=true)=>y10) (Ak 1 tv)) tv)) (An (An (fun (y12:(bif decide (Ja8 f=0) then decide (Jas b=0) else false)=true)=>y12) (fun (y13:(bif decide (Ja8 f=0) then decide (Jas b=0) else false)=false)=>tv)) (Ak 1 (An (fun (y14:(bif bif decide (Ja8 f=0) then decide (Jas b=0) else false then decide (JbW f=4) else false)=true)=>(An (Ak 1 tv) tv)) (An (fun (y15:(bif bif decide (Ja8 f=0) then decide (Jas b=0) else false then decide (JbW f=4) else false)=true)=>(An (Ak 2 tv) tv)) (An (fun (y16:(bif bif decide (Ja8 f=0) then decide (Jas b=0) else false then decide (JbW f=4) else false)=true)=>(An (An (fun (y17:(bif bif decide (Ja8 f=0) then decide (Jas b=0) else false then decide (JbW f=4) else false)=true)=>y16) (An (fun (y18:(bif bif decide (Ja8 f=0) then decide (Jas b=0) else false then decide (JbW f=4) else false)=true)=>y16) tv)) tv)) (An (An (fun (y19:(bif bif decide (Ja8 f=0) then decide (Jas b=0) else false then decide (JbW f=4) else false)=true)=>y19) (fun (y20:(bif bif decide (Ja8 f=0) then decide (Jas b=0) else false then decide (JbW f=4) else false)=false)=>tv)) (Ak 1 tv)))))))))))))) ?_
 refine Ja5 ?_
 exact zT [] (An (Ak 1 tv) (An (An (cb (o4 hpre)) (zr nilN)) (An (zr true) (An (zr true) (zr true)))))
theorem Jjy:Jas exB=0/\(JfP exB).lo=26/\(JfP exB).hi=29:=by decide +kernel
theorem Jnu:Ja8 exP=0/\JbW exP=4:=by decide +kernel
theorem Jle:JaZ exB:=by unfold JaZ; decide
theorem tw6 (f o:Frm) (b:Book):Ja4 Tryz.prog 6 (sw6 f o b):=by
 apply w6
 all_goals (rintro ⟨⟨rfl,rfl⟩,rfl⟩)
 case o0 | o1=>all_goals rfl
 case o2=>exact Jii
 case o3=>exact Jle
 case o4=>rw [Jjy.1,Jjy.2.1,Jjy.2.2,Jnu.1,Jnu.2]; rfl
theorem t6:Ja4 Tryz.prog 6 s6:=⟨(tw6 exP exO exB).1,fun _=>(tw6 exP exO exB).2 ⟨⟨rfl,rfl⟩,rfl⟩⟩
abbrev q8c (f:Frm) (ls:List Int) (x:BilX) (Pq:Prop):Prop:=Jba f/\ls.length<=big/\(BilX.out x).length<=big->Pq
abbrev q8d (f:Frm) (ls:List Int) (x:BilX) (Pq:Prop):Prop:=q8c f ls x ((bif bif bif bif farF f then true else !decide (Jao f=0) then true else decide (3 < (↑(f.pieces.length):Int)) then true else !decide ((↑(ls.length):Int)=(↑(f.pieces.length):Int)) then true else decide (40 < (↑((BilX.out x).length):Int)))=false->Pq)
abbrev q8e (ls:List Int) (x43:Nat) (Pq:Prop):Prop:=(x43<=ls.length /\ ∀ (j:Nat),j < x43->Ja1 (ls.getD j 0) 0 9=true)->Pq
abbrev q8f (ls:List Int) (x43:Nat) (Pq:Prop):Prop:=q8e ls x43 (decide ((x43:Int) < (↑(ls.length):Int))=true->Pq)
abbrev q8g (ls:List Int) (x:BilX) (x43:Nat) (Pq:Prop):Prop:=q8f ls x43 ((bif !Ja1 (ls.getD x43 0) 0 9 then true else !Ja1 (BilX.rate x) 0 9)=false->Pq)
abbrev q8h (ls:List Int) (x43:Nat) (Pq:Prop):Prop:=q8e ls x43 (decide ((x43:Int) < (↑(ls.length):Int))=false->Pq)
abbrev q8i (f:Frm) (ls:List Int) (x:BilX) (x43:Nat) (Pq:Prop):Prop:=q8h ls x43 ((bif !decide (Jas (adB (BilX.rate x) ls)=0) then true else !decide (Jao (payF f (BilX.rate x) ls)=0))=false->Pq)
abbrev q8j (f:Frm) (ls:List Int) (x:BilX) (x43:Nat) (Pq:Prop):Prop:=q8i f ls x x43 ((bif !decide (Ja8 (payF f (BilX.rate x) ls)=Ja8 (payF f (BilX.rate x) ls)) then true else bif !decide (Ja8 (payF f (BilX.rate x) ls)=0) then !decide (Ja8 (payF f (BilX.rate x) ls)=3) else false)=false->(!decide (Ja8 (payF f (BilX.rate x) ls)=0))=false->Pq)
abbrev q8k (f:Frm) (ls:List Int) (x:BilX) (x43:Nat) (Pq:Prop):Prop:=q8j f ls x x43 ((!Jbg (Jaj (payF f (BilX.rate x) ls)) 0 ((↑((payF f (BilX.rate x) ls).pieces.length):Int) - 1))=false->Pq)
abbrev q8l (f:Frm) (ls:List Int) (x:BilX) (x43:Nat) (Pq:Prop):Prop:=q8k f ls x x43 ((bif bif !decide (Jam (adB (BilX.rate x) ls) ls true=0) then true else !decide (Jam (Jap (adB (BilX.rate x) ls) (Jaj (payF f (BilX.rate x) ls))) ls true=0) then true else !decide (Jc0 (adB (BilX.rate x) ls) ls - Jc0 (Jap (adB (BilX.rate x) ls) (Jaj (payF f (BilX.rate x) ls))) ls=JbW (payF f (BilX.rate x) ls)))=false->Pq)
abbrev q8m (f:Frm) (ls:List Int) (x:BilX) (x43:Nat) (Pq:Prop):Prop:=q8l f ls x x43 ((!!Jbg (BilX.out x) 0 ((↑((payF f (BilX.rate x) ls).pieces.length):Int) - 1))=true->Pq)
abbrev q8n (f:Frm) (ls:List Int) (x:BilX) (x43:Nat) (Pq:Prop):Prop:=q8l f ls x x43 ((bif !Jbg (BilX.out x) 0 ((↑((payF f (BilX.rate x) ls).pieces.length):Int) - 1) then true else !canP (payF f (BilX.rate x) ls) (BilX.out x))=false->Pq)
theorem w3 (f:Frm) (ls:List Int) (x:BilX)
 (o0:q8c f ls x (farF f=false->(!farF f)=true))
 (o1:q8c f ls x ((bif farF f then true else !decide (Jao f=0))=false->(!bif farF f then true else !decide (Jao f=0))=true))
 (o2:q8c f ls x ((bif bif farF f then true else !decide (Jao f=0) then true else decide (3 < (↑(f.pieces.length):Int)))=false->(!bif bif farF f then true else !decide (Jao f=0) then true else decide (3 < (↑(f.pieces.length):Int)))=true))
 (o3:q8c f ls x ((bif bif bif farF f then true else !decide (Jao f=0) then true else decide (3 < (↑(f.pieces.length):Int)) then true else !decide ((↑(ls.length):Int)=(↑(f.pieces.length):Int)))=false->(!bif bif bif farF f then true else !decide (Jao f=0) then true else decide (3 < (↑(f.pieces.length):Int)) then true else !decide ((↑(ls.length):Int)=(↑(f.pieces.length):Int)))=true))
 (o4:q8d f ls x (Jai f))
 (o5:q8d f ls x (0=(↑0:Int)))
 (o6:q8d f ls x (∀ (i44:Nat),i44 < f.pieces.length->JaD (pc f i44)=JaD (JdN f (BilX.rate x) ls 0 i44)))
 (o7:q8d f ls x (0<=ls.length /\ ∀ (j:Nat),j < 0->Ja1 (ls.getD j 0) 0 9=true))
 (o8:q8d f ls x (∀ (x43:Nat),q8f ls x43 (0<=(x43:Int))))
 (o9:q8d f ls x (∀ (x43:Nat),q8f ls x43 ((x43:Int) < (↑(ls.length):Int))))
 (o10:q8d f ls x (∀ (x43:Nat),q8f ls x43 ((!Ja1 (ls.getD x43 0) 0 9)=false->(!!Ja1 (ls.getD x43 0) 0 9)=true)))
 (o11:q8d f ls x (∀ (x43:Nat),q8g ls x x43 (0<=(x43:Int))))
 (o12:q8d f ls x (∀ (x43:Nat),q8g ls x x43 ((x43:Int) < (↑(f.pieces.length):Int))))
 (o13:q8d f ls x (∀ (x43:Nat),q8g ls x x43 (x43 < f.pieces.length)))
 (o14:q8d f ls x (∀ (x43:Nat),q8g ls x x43 (0<=(x43:Int))))
 (o15:q8d f ls x (∀ (x43:Nat),q8g ls x x43 ((x43:Int) < (↑(ls.length):Int))))
 (o16:q8d f ls x (∀ (x43:Nat),q8g ls x x43 (inI (BilX.rate x * ls.getD x43 0))))
 (o17:q8d f ls x (∀ (x43:Nat),q8g ls x x43 (0<=(x43:Int))))
 (o18:q8d f ls x (∀ (x43:Nat),q8g ls x x43 ((x43:Int) < (↑(f.pieces.length):Int))))
 (o19:q8d f ls x (∀ (x43:Nat),q8g ls x x43 (x43 < f.pieces.length)))
 (o20:q8d f ls x (∀ (x43:Nat),q8g ls x x43 (0<=(x43:Int))))
 (o21:q8d f ls x (∀ (x43:Nat),q8g ls x x43 ((x43:Int) < (↑(ls.length):Int))))
 (o22:q8d f ls x (∀ (x43:Nat),q8g ls x x43 (0<=(x43:Int))))
 (o23:q8d f ls x (∀ (x43:Nat),q8g ls x x43 ((x43:Int) < (↑(ls.length):Int))))
 (o24:q8d f ls x (∀ (x43:Nat),q8g ls x x43 (x43 + 1<=65536)))
 (o25:q8d f ls x (∀ (x43:Nat),q8g ls x x43 (x43 + 1<=65536)))
 (o26:q8d f ls x (∀ (x43:Nat),q8g ls x x43 (inI ((x43:Int) + 1))))
 (o27:q8d f ls x (∀ (x43:Nat),q8g ls x x43 ((x43:Int) + 1=(↑(x43 + 1):Int))))
 (o28:q8d f ls x (∀ (x43:Nat),q8g ls x x43 (∀ (i60:Nat),i60 < f.pieces.length->Decidable.rec (fun (h:¬i60=x43)=>JaD (JdN f (BilX.rate x) ls x43 i60)) (fun (h:i60=x43)=>[iv (JdN f (BilX.rate x) ls x43 x43).lo,iv (JdN f (BilX.rate x) ls x43 x43).hi,iv (BilX.rate x * ls.getD x43 0)] ++ []) (instDecidableEqNat i60 x43)=JaD (JdN f (BilX.rate x) ls (x43 + 1) i60))))
 (o29:q8d f ls x (∀ (x43:Nat),q8g ls x x43 (∀ (i62:Nat),i62 < x43 + 1->catF x43 (fun (j:Nat)=>Jb6 (Jdi (ls.getD j 0))) (fun (j:Nat)=>List.getD [[iv (ls.getD x43 0),iv (ls.getD x43 0)]] j (TI.za ti42)) i62=Jb6 (Jdi (ls.getD i62 0)))))
 (o30:q8d f ls x (∀ (x43:Nat),q8g ls x x43 (∀ (i64:Nat),i64 < x43 + 1->catF x43 (fun (j:Nat)=>cShn (JbO j)) (fun (j:Nat)=>List.getD [[iv (x43:Int),iv (x43:Int),iv 0]] j (TI.za ti46)) i64=cShn (JbO i64))))
 (o31:q8d f ls x (∀ (x43:Nat),q8g ls x x43 (x43 + 1<=ls.length /\ ∀ (j:Nat),j < x43 + 1->Ja1 (ls.getD j 0) 0 9=true)))
 (o32:q8d f ls x (∀ (x43:Nat),q8g ls x x43 (ls.length - (x43 + 1) < ls.length - x43)))
 (o33:q8d f ls x (∀ (x43:Nat),q8h ls x43 (x43=(adB (BilX.rate x) ls).lines.length)))
 (o34:q8d f ls x (∀ (x43:Nat),q8h ls x43 (∀ (i66:Nat),i66 < (adB (BilX.rate x) ls).lines.length->Jb6 (Jdi (ls.getD i66 0))=Jb6 (lnB (adB (BilX.rate x) ls) i66))))
 (o35:q8d f ls x (∀ (x43:Nat),q8h ls x43 (x43=(adB (BilX.rate x) ls).shown.length)))
 (o36:q8d f ls x (∀ (x43:Nat),q8h ls x43 (∀ (i68:Nat),i68 < (adB (BilX.rate x) ls).shown.length->cShn (JbO i68)=cShn (shB (adB (BilX.rate x) ls) i68))))
 (o37:q8d f ls x (∀ (x43:Nat),q8h ls x43 (BilX.rate x=(adB (BilX.rate x) ls).rate)))
 (o38:q8d f ls x (∀ (x43:Nat),q8h ls x43 (BilX.rate x=(adB (BilX.rate x) ls).rep)))
 (o39:q8d f ls x (∀ (x43:Nat),q8h ls x43 ((adB (BilX.rate x) ls).ctrs.length=0)))
 (o40:q8d f ls x (∀ (x43:Nat),q8h ls x43 (f.length=(payF f (BilX.rate x) ls).length)))
 (o41:q8d f ls x (∀ (x43:Nat),q8h ls x43 (f.slack=(payF f (BilX.rate x) ls).slack)))
 (o42:q8d f ls x (∀ (x43:Nat),q8h ls x43 (f.strips.length=(payF f (BilX.rate x) ls).strips.length)))
 (o43:q8d f ls x (∀ (x43:Nat),q8h ls x43 (∀ (i70:Nat),i70 < (payF f (BilX.rate x) ls).strips.length->JaK (stp f i70)=JaK (stp (payF f (BilX.rate x) ls) i70))))
 (o44:q8d f ls x (∀ (x43:Nat),q8h ls x43 (f.pieces.length=(payF f (BilX.rate x) ls).pieces.length)))
 (o45:q8d f ls x (∀ (x43:Nat),q8h ls x43 (∀ (i72:Nat),i72 < (payF f (BilX.rate x) ls).pieces.length->JaD (JdN f (BilX.rate x) ls x43 i72)=JaD (pc (payF f (BilX.rate x) ls) i72))))
 (o46:q8d f ls x (∀ (x43:Nat),q8h ls x43 (f.columns.length=(payF f (BilX.rate x) ls).columns.length)))
 (o47:q8d f ls x (∀ (x43:Nat),q8h ls x43 (∀ (i74:Nat),i74 < (payF f (BilX.rate x) ls).columns.length -> [Ja6 (col f i74)] = [Ja6 (col (payF f (BilX.rate x) ls) i74)])))
 (o48:q8d f ls x (∀ (x43:Nat),q8h ls x43 (Jin (adB (BilX.rate x) ls))))
 (o49:q8d f ls x (∀ (x43:Nat),q8h ls x43 ((!!decide (Jas (adB (BilX.rate x) ls)=0))=true->Jba (payF f (BilX.rate x) ls))))
 (o50:q8d f ls x (∀ (x43:Nat),q8h ls x43 ((!decide (Jas (adB (BilX.rate x) ls)=0))=false->(!!decide (Jas (adB (BilX.rate x) ls)=0))=true)))
 (o51:q8d f ls x (∀ (x43:Nat),q8i f ls x x43 (Jai (payF f (BilX.rate x) ls))))
 (o52:q8d f ls x (∀ (x43:Nat),q8i f ls x x43 (Jai (payF f (BilX.rate x) ls))))
 (o53:q8d f ls x (∀ (x43:Nat),q8i f ls x x43 ((!!decide (Ja8 (payF f (BilX.rate x) ls)=Ja8 (payF f (BilX.rate x) ls)))=true->(!decide (Ja8 (payF f (BilX.rate x) ls)=0))=true->(!!decide (Ja8 (payF f (BilX.rate x) ls)=Ja8 (payF f (BilX.rate x) ls)) && !decide (Ja8 (payF f (BilX.rate x) ls)=0))=true)))
 (o54:q8d f ls x (∀ (x43:Nat),q8i f ls x x43 ((!decide (Ja8 (payF f (BilX.rate x) ls)=Ja8 (payF f (BilX.rate x) ls)))=false->(!!decide (Ja8 (payF f (BilX.rate x) ls)=Ja8 (payF f (BilX.rate x) ls)))=true)))
 (o55:q8d f ls x (∀ (x43:Nat),q8i f ls x x43 ((bif !decide (Ja8 (payF f (BilX.rate x) ls)=Ja8 (payF f (BilX.rate x) ls)) then true else bif !decide (Ja8 (payF f (BilX.rate x) ls)=0) then !decide (Ja8 (payF f (BilX.rate x) ls)=3) else false)=true->false=true)))
 (o56:q8d f ls x (∀ (x43:Nat),q8j f ls x x43 (inI ((↑((payF f (BilX.rate x) ls).pieces.length):Int) - 1))))
 (o57:q8d f ls x (∀ (x43:Nat),q8j f ls x x43 ((Jaj (payF f (BilX.rate x) ls)).length<=big)))
 (o58:q8d f ls x (∀ (x43:Nat),q8j f ls x x43 ((!Jbg (Jaj (payF f (BilX.rate x) ls)) 0 ((↑((payF f (BilX.rate x) ls).pieces.length):Int) - 1))=true->false=true)))
 (o59:q8d f ls x (∀ (x43:Nat),q8k f ls x x43 (0 + ls.length<=65536)))
 (o60:q8d f ls x (∀ (x43:Nat),q8k f ls x x43 (0 + ls.length=ls.length)))
 (o61:q8d f ls x (∀ (x43:Nat),q8k f ls x x43 (JaZ (adB (BilX.rate x) ls))))
 (o62:q8d f ls x (∀ (x43:Nat),q8k f ls x x43 (ls.length<=60000)))
 (o63:q8d f ls x (∀ (x43:Nat),q8k f ls x x43 (JaZ (adB (BilX.rate x) ls))))
 (o64:q8d f ls x (∀ (x43:Nat),q8k f ls x x43 ((Jaj (payF f (BilX.rate x) ls)).length<=big)))
 (o65:q8d f ls x (∀ (x43:Nat),q8k f ls x x43 (0 + ls.length<=65536)))
 (o66:q8d f ls x (∀ (x43:Nat),q8k f ls x x43 (0 + ls.length=ls.length)))
 (o67:q8d f ls x (∀ (x43:Nat),q8k f ls x x43 (JaZ (Jap (adB (BilX.rate x) ls) (Jaj (payF f (BilX.rate x) ls))))))
 (o68:q8d f ls x (∀ (x43:Nat),q8k f ls x x43 (ls.length<=60000)))
 (o69:q8d f ls x (∀ (x43:Nat),q8k f ls x x43 ((!decide (Jam (adB (BilX.rate x) ls) ls true=0))=false->(!!decide (Jam (adB (BilX.rate x) ls) ls true=0))=true)))
 (o70:q8d f ls x (∀ (x43:Nat),q8k f ls x x43 ((!bif !decide (Jam (adB (BilX.rate x) ls) ls true=0) then true else !decide (Jam (Jap (adB (BilX.rate x) ls) (Jaj (payF f (BilX.rate x) ls))) ls true=0))=true->inI (Jc0 (adB (BilX.rate x) ls) ls - Jc0 (Jap (adB (BilX.rate x) ls) (Jaj (payF f (BilX.rate x) ls))) ls))))
 (o71:q8d f ls x (∀ (x43:Nat),q8k f ls x x43 ((bif !decide (Jam (adB (BilX.rate x) ls) ls true=0) then true else !decide (Jam (Jap (adB (BilX.rate x) ls) (Jaj (payF f (BilX.rate x) ls))) ls true=0))=false->(!bif !decide (Jam (adB (BilX.rate x) ls) ls true=0) then true else !decide (Jam (Jap (adB (BilX.rate x) ls) (Jaj (payF f (BilX.rate x) ls))) ls true=0))=true)))
 (o72:q8d f ls x (∀ (x43:Nat),q8k f ls x x43 ((bif bif !decide (Jam (adB (BilX.rate x) ls) ls true=0) then true else !decide (Jam (Jap (adB (BilX.rate x) ls) (Jaj (payF f (BilX.rate x) ls))) ls true=0) then true else !decide (Jc0 (adB (BilX.rate x) ls) ls - Jc0 (Jap (adB (BilX.rate x) ls) (Jaj (payF f (BilX.rate x) ls))) ls=JbW (payF f (BilX.rate x) ls)))=true->false=true)))
 (o73:q8d f ls x (∀ (x43:Nat),q8l f ls x x43 (inI ((↑((payF f (BilX.rate x) ls).pieces.length):Int) - 1))))
 (o74:q8d f ls x (∀ (x43:Nat),q8l f ls x x43 ((BilX.out x).length<=big)))
 (o75:q8d f ls x (∀ (x43:Nat),q8m f ls x x43 (Sound (payF f (BilX.rate x) ls))))
 (o76:q8d f ls x (∀ (x43:Nat),q8m f ls x x43 (Jcv (payF f (BilX.rate x) ls) (payF f (BilX.rate x) ls).strips.length<=30)))
 (o77:q8d f ls x (∀ (x43:Nat),q8m f ls x x43 ((BilX.out x).length<=big)))
 (o78:q8d f ls x (∀ (x43:Nat),q8l f ls x x43 ((!Jbg (BilX.out x) 0 ((↑((payF f (BilX.rate x) ls).pieces.length):Int) - 1))=false->(!!Jbg (BilX.out x) 0 ((↑((payF f (BilX.rate x) ls).pieces.length):Int) - 1))=true)))
 (o79:q8d f ls x (∀ (x43:Nat),q8n f ls x x43 (JaZ (adB (BilX.rate x) ls))))
 (o80:q8d f ls x (∀ (x43:Nat),q8n f ls x x43 ((BilX.out x).length<=big)))
 (o81:q8d f ls x (∀ (x43:Nat),q8n f ls x x43 (0 + ls.length<=65536)))
 (o82:q8d f ls x (∀ (x43:Nat),q8n f ls x x43 (0 + ls.length=ls.length)))
 (o83:q8d f ls x (∀ (x43:Nat),q8n f ls x x43 (JaZ (Jap (adB (BilX.rate x) ls) (BilX.out x)))))
 (o84:q8d f ls x (∀ (x43:Nat),q8n f ls x x43 (ls.length<=60000)))
 (o85:q8d f ls x (∀ (x43:Nat),q8n f ls x x43 (decide (Jam (Jap (adB (BilX.rate x) ls) (BilX.out x)) ls true=0)=true->inI (Jc0 (adB (BilX.rate x) ls) ls - Jc0 (Jap (adB (BilX.rate x) ls) (BilX.out x)) ls))))
 (o86:q8d f ls x (∀ (x43:Nat),q8n f ls x x43 ((bif bif decide (Jam (Jap (adB (BilX.rate x) ls) (BilX.out x)) ls true=0) then decide (JbW (payF f (BilX.rate x) ls)<=Jc0 (adB (BilX.rate x) ls) ls - Jc0 (Jap (adB (BilX.rate x) ls) (BilX.out x)) ls) else false then true else false)=true))) :
  Ja4 Tryz.prog 3 (s3 f ls x):=by
 refine Ja7 Tryz.func3 rfl Tryz.call3 Jaw _ rfl rfl rfl rfl (Nat.le_of_ble_eq_true (by kernel_rfl)) (fun _ _ _ _ h=>h) ?_
 intro hpre C hC _ hE
 obtain ⟨P,w0,E0,av,hA,ro,df⟩:=C
 obtain ⟨rfl,rfl,rfl⟩:=hC
 refine Ja0 ?_
 refine zR [1,3,5] [0,8] (Ak 3 tv) ?_
 refine Ja0 ?_
 refine Ja0 ?_
 refine zC ([(1,CallSpec.eq (s4 f) [true]),(4,CallSpec.eq (s5 f) [true])]) [1,3,5,47] [0,8] (Ak 1 (An (An (An (zr (AV.agg (cFrm f))) tv) (An (t4 (f)) (An hpre.1 (Ak 1 (fun (i0:Env)=>tv))))) (Ak 1 (An (fun (y1:(!farF f)=true)=>(An (Ak 1 tv) tv)) (An (fun (y2:(!farF f)=true)=>(An (Ak 1 (An (fun (y3:(!farF f)=true)=>y2) tv)) (An (An (zr (AV.agg (cFrm f))) tv) (An (t5 (f)) (An hpre.1 (Ak 1 (fun (i4:Env)=>tv))))))) (An (fun (y5:(!farF f)=true)=>(An (An (fun (y6:(!farF f)=true)=>y5) (Ak 1 tv)) tv)) (An (An (fun (y7:farF f=true)=>tv) (fun (y8:farF f=false)=>(o0 hpre y8))) (Ak 1 (An (fun (y9:(!bif farF f then true else !decide (Jao f=0))=true)=>(An (Ak 1 tv) tv)) (An (fun (y10:(!bif farF f then true else !decide (Jao f=0))=true)=>(An (An (fun (y11:(!bif farF f then true else !decide (Jao f=0))=true)=>y10) tv) tv)) (An (fun (y12:(!bif farF f then true else !decide (Jao f=0))=true)=>(An (An (fun (y13:(!bif farF f then true else !decide (Jao f=0))=true)=>y12) tv) tv)) (An (fun (y14:(!bif farF f then true else !decide (Jao f=0))=true)=>(An (An (fun (y15:(!bif farF f then true else !decide (Jao f=0))=true)=>y14) (Ak 1 tv)) tv)) (An (An (fun (y16:(bif farF f then true else !decide (Jao f=0))=true)=>tv) (fun (y17:(bif farF f then true else !decide (Jao f=0))=false)=>(o1 hpre y17))) (Ak 1 (An (fun (y18:(!bif bif farF f then true else !decide (Jao f=0) then true else decide (3 < (↑(f.pieces.length):Int)))=true)=>(An (Ak 1 tv) tv)) (An (fun (y19:(!bif bif farF f then true else !decide (Jao f=0) then true else decide (3 < (↑(f.pieces.length):Int)))=true)=>(An (An (fun (y20:(!bif bif farF f then true else !decide (Jao f=0) then true else decide (3 < (↑(f.pieces.length):Int)))=true)=>y19) tv) tv)) (An (fun (y21:(!bif bif farF f then true else !decide (Jao f=0) then true else decide (3 < (↑(f.pieces.length):Int)))=true)=>(An (Ak 1 tv) tv)) (An (fun (y22:(!bif bif farF f then true else !decide (Jao f=0) then true else decide (3 < (↑(f.pieces.length):Int)))=true)=>(An (An (fun (y23:(!bif bif farF f then true else !decide (Jao f=0) then true else decide (3 < (↑(f.pieces.length):Int)))=true)=>y22) tv) tv)) (An (fun (y24:(!bif bif farF f then true else !decide (Jao f=0) then true else decide (3 < (↑(f.pieces.length):Int)))=true)=>(An (An (fun (y25:(!bif bif farF f then true else !decide (Jao f=0) then true else decide (3 < (↑(f.pieces.length):Int)))=true)=>y24) tv) tv)) (An (fun (y26:(!bif bif farF f then true else !decide (Jao f=0) then true else decide (3 < (↑(f.pieces.length):Int)))=true)=>(An (An (fun (y27:(!bif bif farF f then true else !decide (Jao f=0) then true else decide (3 < (↑(f.pieces.length):Int)))=true)=>y26) (An (fun (y28:(!bif bif farF f then true else !decide (Jao f=0) then true else decide (3 < (↑(f.pieces.length):Int)))=true)=>y26) tv)) tv)) (An (An (fun (y29:(bif bif farF f then true else !decide (Jao f=0) then true else decide (3 < (↑(f.pieces.length):Int)))=true)=>tv) (fun (y30:(bif bif farF f then true else !decide (Jao f=0) then true else decide (3 < (↑(f.pieces.length):Int)))=false)=>(o2 hpre y30))) (Ak 1 (An (fun (y31:(!bif bif bif farF f then true else !decide (Jao f=0) then true else decide (3 < (↑(f.pieces.length):Int)) then true else !decide ((↑(ls.length):Int)=(↑(f.pieces.length):Int)))=true)=>(An (Ak 1 tv) tv)) (An (fun (y32:(!bif bif bif farF f then true else !decide (Jao f=0) then true else decide (3 < (↑(f.pieces.length):Int)) then true else !decide ((↑(ls.length):Int)=(↑(f.pieces.length):Int)))=true)=>(An (An (fun (y33:(!bif bif bif farF f then true else !decide (Jao f=0) then true else decide (3 < (↑(f.pieces.length):Int)) then true else !decide ((↑(ls.length):Int)=(↑(f.pieces.length):Int)))=true)=>y32) tv) tv)) (An (fun (y34:(!bif bif bif farF f then true else !decide (Jao f=0) then true else decide (3 < (↑(f.pieces.length):Int)) then true else !decide ((↑(ls.length):Int)=(↑(f.pieces.length):Int)))=true)=>(An (An (fun (y35:(!bif bif bif farF f then true else !decide (Jao f=0) then true else decide (3 < (↑(f.pieces.length):Int)) then true else !decide ((↑(ls.length):Int)=(↑(f.pieces.length):Int)))=true)=>y34) tv) tv)) (An (fun (y36:(!bif bif bif farF f then true else !decide (Jao f=0) then true else decide (3 < (↑(f.pieces.length):Int)) then true else !decide ((↑(ls.length):Int)=(↑(f.pieces.length):Int)))=true)=>(An (An (fun (y37:(!bif bif bif farF f then true else !decide (Jao f=0) then true else decide (3 < (↑(f.pieces.length):Int)) then true else !decide ((↑(ls.length):Int)=(↑(f.pieces.length):Int)))=true)=>y36) (Ak 1 tv)) tv)) (An (An (fun (y38:(bif bif bif farF f then true else !decide (Jao f=0) then true else decide (3 < (↑(f.pieces.length):Int)) then true else !decide ((↑(ls.length):Int)=(↑(f.pieces.length):Int)))=true)=>tv) (fun (y39:(bif bif bif farF f then true else !decide (Jao f=0) then true else decide (3 < (↑(f.pieces.length):Int)) then true else !decide ((↑(ls.length):Int)=(↑(f.pieces.length):Int)))=false)=>(o3 hpre y39))) tv))))))))))))))))))))))))))) ?_
 refine zI (bif bif bif bif farF f then true else !decide (Jao f=0) then true else decide (3 < (↑(f.pieces.length):Int)) then true else !decide ((↑(ls.length):Int)=(↑(f.pieces.length):Int)) then true else decide (40 < (↑((BilX.out x).length):Int))) (fun y40 => ?_) (fun y40 => ?_)
 ·refine Ja0 ?_
  refine zC ([(0,CallSpec.eq s6 [])]) [6] [] (An (Ak 1 (An (t6) (Ak 2 (fun (i41:Env)=>tv)))) (Ak 1 tv)) ?_
  refine Ja5 ?_
  exact zT [] (An (Ak 1 tv) (An (An (zr (bv true)) (zr nilN)) (An (zr true) (An (zr true) (zr true)))))
 ·refine Ja3 ?_
  refine Ja0 ?_
  refine zC ([(1,CallSpec.eq (c3o f ls x 248) [true])]) [1,5,7] [8,256,248,249,250] (Ak 1 (An (An (An (zr (AV.agg (cFrm f))) tv) (An (t7o (f) (248)) (An (o4 hpre y40) (Ak 1 (fun (i42:Env)=>tv))))) (Ak 2 tv))) ?_
  refine Ja0 ?_
  refine zR [1,5,7,8] [8,256,312,248,249,250] (Ak 7 tv) ?_
  refine Ja0 ?_
  refine Ja0 ?_
  refine zR [1,5,7,8,9] [8,256,312,248,249,250] (Ak 1 tv) ?_
  refine Ja2 ?_
  refine zL (Hint.ann (h3 f ls x) [(1,Ja6 ls),(5,AV.ptr 8 []),(7,AV.ptr 256 []),(8,AV.ptr 312 [])] [(8,OB.cells 29 (cBil x)),(256,OB.cells 26 [iv f.length,iv f.slack,AV.vec 248,AV.vec 249,AV.vec 250]),(248,OB.vec 58 2 f.strips.length fun (i:Nat)=>JaK (stp f i)),(250,OB.vec 27 1 f.columns.length fun (i:Nat)=>[Ja6 (col f i)])] 10336) (zE hE [] [(8,.same 8),(256,.same 256),(248,.same 248),(249,.same 249),(250,.same 250),(312,.same 312),(5000,.nil),(5001,.nil)] [1] [8,248,250] (An (An (An (zr (Ja6 ls)) (zr true)) (An (An (zr (some (Src.same 8))) (zr nilP)) (An (An (zr (some (Src.same 256))) (zr nilP)) (An (An (zr (some (Src.same 312))) (zr nilP)) (An (An (ci (o5 hpre y40)) (zr nilN)) tv))))) (An (An (An (zr (OB.cells 29 (cBil x))) (zr true)) (An (An (zr 26) (An (An (An (zr (iv f.length)) (zr nilN)) (An (An (zr (iv f.slack)) (zr nilN)) (An (zr (some (Src.same 248))) (An (zr (some (Src.same 249))) (An (zr (some (Src.same 250))) tv))))) (zr true))) (An (An (zr (OB.vec 58 2 f.strips.length fun (i:Nat)=>JaK (stp f i))) (zr true)) (An (An (zr (OB.vec 27 1 f.columns.length fun (i:Nat)=>[Ja6 (col f i)])) (zr true)) (An (An (zr 44) (An (zr 3) (An (zr f.pieces.length) (fun (i44:Nat)=>(fun (y45:i44 < f.pieces.length)=>(o6 hpre y40 i44 y45)))))) (An (An (zr 39) (An (An (zr (some Src.nil)) (An (zr (some Src.nil)) (An (An (zr (iv (BilX.rate x))) (zr nilN)) (An (An (zr (iv (BilX.rate x))) (zr nilN)) (An (An (zr (nilv)) (zr nilN)) tv))))) (zr true))) (An (zr 0) (An (zr 0) tv)))))))) (An (zr true) (zr true))))) (o7 hpre y40) (fun (x43:Nat) hx43 => ?_)
  refine Ja0 ?_
  refine Ja0 ?_
  refine zR [1,5,7,8,9,59] [8,256,312,248,249,250,5000,5001] (Ak 4 tv) ?_
  refine zI (decide ((x43:Int) < (↑(ls.length):Int))) (fun y46 => ?_) (fun y46 => ?_)
  ·refine Ja3 ?_
   refine Ja0 ?_
   refine Ja2 ?_
   refine Ja0 ?_
   refine Ja0 ?_
   refine zC ([(4,CallSpec.eq (s8 (ls.getD x43 0) 0 9) [true,true,true]),(9,CallSpec.eq (s8 (BilX.rate x) 0 9) [true,true,true])]) [1,5,7,8,9,73] [8,256,312,248,249,250,5000,5001] (Ak 2 (An (An (o8 hpre y40 x43 hx43 y46) (o9 hpre y40 x43 hx43 y46)) (Ak 1 (An (An (An (zr (iv (ls.getD x43 0))) (An (zr (iv 0)) (An (zr (iv 9)) tv))) (An (t8 (ls.getD x43 0) (0) (9)) (Ak 2 (fun (i47:Env)=>tv)))) (Ak 2 (An (fun (y48:(!!Ja1 (ls.getD x43 0) 0 9)=true)=>(An (Ak 1 tv) tv)) (An (fun (y49:(!!Ja1 (ls.getD x43 0) 0 9)=true)=>(An (An (fun (y50:(!!Ja1 (ls.getD x43 0) 0 9)=true)=>y49) tv) tv)) (An (fun (y51:(!!Ja1 (ls.getD x43 0) 0 9)=true)=>(An (Ak 1 (An (fun (y52:(!!Ja1 (ls.getD x43 0) 0 9)=true)=>y51) (Ak 2 tv))) (An (An (zr (iv (BilX.rate x))) (An (zr (iv 0)) (An (zr (iv 9)) tv))) (An (t8 (BilX.rate x) (0) (9)) (Ak 2 (fun (i53:Env)=>tv)))))) (An (fun (y54:(!!Ja1 (ls.getD x43 0) 0 9)=true)=>(An (An (fun (y55:(!!Ja1 (ls.getD x43 0) 0 9)=true)=>y54) tv) tv)) (An (An (fun (y56:(!Ja1 (ls.getD x43 0) 0 9)=true)=>tv) (fun (y57:(!Ja1 (ls.getD x43 0) 0 9)=false)=>(o10 hpre y40 x43 hx43 y46 y57))) tv)))))))))) ?_
   refine zI (bif !Ja1 (ls.getD x43 0) 0 9 then true else !Ja1 (BilX.rate x) 0 9) (fun y58 => ?_) (fun y58 => ?_)
   ·refine Ja0 ?_
    refine zC ([(0,CallSpec.eq s6 [])]) [6] [] (An (Ak 1 (An (t6) (Ak 2 (fun (i59:Env)=>tv)))) (Ak 1 tv)) ?_
    refine Ja5 ?_
    exact zT [] (An (Ak 1 tv) (An (An (zr (bv true)) (zr nilN)) (An (zr true) (An (zr true) (zr true)))))
   ·refine Ja3 ?_
    refine Ja0 ?_
    refine zR [1,5,7,8,9,10] [8,256,312,10504,248,249,250,5000,5001] (Ak 3 (An (An (o11 hpre y40 x43 hx43 y46 y58) (o12 hpre y40 x43 hx43 y46 y58)) (An (An (o13 hpre y40 x43 hx43 y46 y58) tv) (Ak 2 tv)))) ?_
    refine Ja0 ?_
    refine zR [1,5,7,8,9,10] [8,256,312,10504,248,249,250,5000,5001] (Ak 4 (An (An (o14 hpre y40 x43 hx43 y46 y58) (o15 hpre y40 x43 hx43 y46 y58)) (Ak 1 (An (o16 hpre y40 x43 hx43 y46 y58) (Ak 2 tv))))) ?_
    refine Ja0 ?_
    refine zR [1,5,7,8,9] [8,256,312,248,249,250,5000,5001] (Ak 4 (An (An (o17 hpre y40 x43 hx43 y46 y58) (o18 hpre y40 x43 hx43 y46 y58)) (An (An (o19 hpre y40 x43 hx43 y46 y58) tv) tv))) ?_
    refine Ja0 ?_
    refine zR [1,5,7,8,9] [8,256,312,10736,5001,248,249,250] (Ak 4 (An (An (o20 hpre y40 x43 hx43 y46 y58) (o21 hpre y40 x43 hx43 y46 y58)) (Ak 3 (An (An (o22 hpre y40 x43 hx43 y46 y58) (o23 hpre y40 x43 hx43 y46 y58)) (Ak 3 (An (o24 hpre y40 x43 hx43 y46 y58) (Ak 2 tv))))))) ?_
    refine zR [1,5,7,8,9] [8,256,312,10736,10808,248,249,250] (Ak 6 (An (o25 hpre y40 x43 hx43 y46 y58) (Ak 2 tv))) ?_
    refine zR [1,5,7,8,9] [8,256,312,248,249,250,10736,10808] (Ak 1 (An (o26 hpre y40 x43 hx43 y46 y58) (Ak 1 tv))) ?_
    exact zn (zE hE [] [(8,.same 8),(256,.same 256),(248,.same 248),(249,.same 249),(250,.same 250),(312,.same 312),(5000,.same 10736),(5001,.same 10808)] [1] [8,248,250] (An (An (An (zr (Ja6 ls)) (zr true)) (An (An (zr (some (Src.same 8))) (zr nilP)) (An (An (zr (some (Src.same 256))) (zr nilP)) (An (An (zr (some (Src.same 312))) (zr nilP)) (An (An (ci (o27 hpre y40 x43 hx43 y46 y58)) (zr nilN)) tv))))) (An (An (An (zr (OB.cells 29 (cBil x))) (zr true)) (An (An (zr 26) (An (An (An (zr (iv f.length)) (zr nilN)) (An (An (zr (iv f.slack)) (zr nilN)) (An (zr (some (Src.same 248))) (An (zr (some (Src.same 249))) (An (zr (some (Src.same 250))) tv))))) (zr true))) (An (An (zr (OB.vec 58 2 f.strips.length fun (i:Nat)=>JaK (stp f i))) (zr true)) (An (An (zr (OB.vec 27 1 f.columns.length fun (i:Nat)=>[Ja6 (col f i)])) (zr true)) (An (An (zr 44) (An (zr 3) (An (zr f.pieces.length) (fun (i60:Nat)=>(fun (y61:i60 < f.pieces.length)=>(o28 hpre y40 x43 hx43 y46 y58 i60 y61)))))) (An (An (zr 39) (An (An (zr (some (Src.same 10736))) (An (zr (some (Src.same 10808))) (An (An (zr (iv (BilX.rate x))) (zr nilN)) (An (An (zr (iv (BilX.rate x))) (zr nilN)) (An (An (zr (nilv)) (zr nilN)) tv))))) (zr true))) (An (An (zr 42) (An (zr 2) (An (zr (x43 + 1)) (fun (i62:Nat)=>(fun (y63:i62 < x43 + 1)=>(o29 hpre y40 x43 hx43 y46 y58 i62 y63)))))) (An (An (zr 46) (An (zr 3) (An (zr (x43 + 1)) (fun (i64:Nat)=>(fun (y65:i64 < x43 + 1)=>(o30 hpre y40 x43 hx43 y46 y58 i64 y65)))))) tv)))))))) (An (zr true) (zr true))))) (o31 hpre y40 x43 hx43 y46 y58) (o32 hpre y40 x43 hx43 y46 y58)
  ·refine Jaa ?_
   refine Ja0 ?_
   refine Ja0 ?_
   refine Jbi (zE (st2:=ASt.mk [(1,Ja6 ls),(5,AV.ptr 8 []),(7,AV.ptr 256 []),(8,AV.ptr 312 []),(9,iv (x43:Int)),(59,bv (decide ((x43:Int) < (↑(ls.length):Int))))] [(312,OB.cells 39 (cBk (adB (BilX.rate x) ls))),(256,OB.cells 26 (cFrm (payF f (BilX.rate x) ls))),(8,OB.cells 29 (cBil x))] 10368) hE [248,249,250,5000,5001] [(8,.same 8),(256,.same 256),(312,.same 312)] [1,9,59] [8] (An (An (An (zr (Ja6 ls)) (zr true)) (An (An (zr (some (Src.same 8))) (zr nilP)) (An (An (zr (some (Src.same 256))) (zr nilP)) (An (An (zr (some (Src.same 312))) (zr nilP)) (An (An (zr (iv (x43:Int))) (zr true)) (An (An (zr (bv (decide ((x43:Int) < (↑(ls.length):Int))))) (zr true)) tv)))))) (An (An (An (zr 39) (An (An (An (zr 2) (An (o33 hpre y40 x43 hx43 y46) (fun (i66:Nat)=>(fun (y67:i66 < (adB (BilX.rate x) ls).lines.length)=>(o34 hpre y40 x43 hx43 y46 i66 y67))))) (An (An (zr 3) (An (o35 hpre y40 x43 hx43 y46) (fun (i68:Nat)=>(fun (y69:i68 < (adB (BilX.rate x) ls).shown.length)=>(o36 hpre y40 x43 hx43 y46 i68 y69))))) (An (An (ci (o37 hpre y40 x43 hx43 y46)) (zr nilN)) (An (An (ci (o38 hpre y40 x43 hx43 y46)) (zr nilN)) (An (o39 hpre y40 x43 hx43 y46) tv))))) (zr true))) (An (An (zr 26) (An (An (An (ci (o40 hpre y40 x43 hx43 y46)) (zr nilN)) (An (An (ci (o41 hpre y40 x43 hx43 y46)) (zr nilN)) (An (An (zr 2) (An (o42 hpre y40 x43 hx43 y46) (fun (i70:Nat)=>(fun (y71:i70 < (payF f (BilX.rate x) ls).strips.length)=>(o43 hpre y40 x43 hx43 y46 i70 y71))))) (An (An (zr 3) (An (o44 hpre y40 x43 hx43 y46) (fun (i72:Nat)=>(fun (y73:i72 < (payF f (BilX.rate x) ls).pieces.length)=>(o45 hpre y40 x43 hx43 y46 i72 y73))))) (An (An (zr 1) (An (o46 hpre y40 x43 hx43 y46) (fun (i74:Nat)=>(fun (y75:i74 < (payF f (BilX.rate x) ls).columns.length)=>(o47 hpre y40 x43 hx43 y46 i74 y75))))) tv))))) (zr true))) (An (An (zr (OB.cells 29 (cBil x))) (zr true)) tv))) (An (zr true) (zr true))))) ?_
   refine zC ([(1,CallSpec.eq (s9 (adB (BilX.rate x) ls)) [true]),(5,CallSpec.eq (s5 (payF f (BilX.rate x) ls)) [true])]) [1,5,7,8,122] [8,256,312] (Ak 1 (An (An (An (zr (AV.agg (cBk (adB (BilX.rate x) ls)))) tv) (An (t9 (adB (BilX.rate x) ls)) (An (o48 hpre y40 x43 hx43 y46) (Ak 1 (fun (i76:Env)=>tv))))) (Ak 2 (An (fun (y77:(!!decide (Jas (adB (BilX.rate x) ls)=0))=true)=>(An (Ak 1 tv) tv)) (An (fun (y78:(!!decide (Jas (adB (BilX.rate x) ls)=0))=true)=>(An (Ak 1 (An (fun (y79:(!!decide (Jas (adB (BilX.rate x) ls)=0))=true)=>y78) tv)) (An (An (zr (AV.agg (cFrm (payF f (BilX.rate x) ls)))) tv) (An (t5 (payF f (BilX.rate x) ls)) (An (o49 hpre y40 x43 hx43 y46 y78) (Ak 1 (fun (i80:Env)=>tv))))))) (An (fun (y81:(!!decide (Jas (adB (BilX.rate x) ls)=0))=true)=>(An (An (fun (y82:(!!decide (Jas (adB (BilX.rate x) ls)=0))=true)=>y81) (Ak 1 tv)) tv)) (An (An (fun (y83:(!decide (Jas (adB (BilX.rate x) ls)=0))=true)=>tv) (fun (y84:(!decide (Jas (adB (BilX.rate x) ls)=0))=false)=>(o50 hpre y40 x43 hx43 y46 y84))) tv))))))) ?_
   refine zI (bif !decide (Jas (adB (BilX.rate x) ls)=0) then true else !decide (Jao (payF f (BilX.rate x) ls)=0)) (fun y85 => ?_) (fun y85 => ?_)
   ·refine Ja0 ?_
    refine zC ([(0,CallSpec.eq s6 [])]) [6] [] (An (Ak 1 (An (t6) (Ak 2 (fun (i86:Env)=>tv)))) (Ak 1 tv)) ?_
    refine Ja5 ?_
    exact zT [] (An (Ak 1 tv) (An (An (zr (bv true)) (zr nilN)) (An (zr true) (An (zr true) (zr true)))))
   ·refine Ja3 ?_
    refine Ja0 ?_
    refine zC ([(1,CallSpec.eq (s10 (payF f (BilX.rate x) ls)) [true])]) [1,5,7,8,11,12] [8,256,312] (Ak 1 (An (An (An (zr (AV.agg (cFrm (payF f (BilX.rate x) ls)))) tv) (An (t10 (payF f (BilX.rate x) ls)) (An (o51 hpre y40 x43 hx43 y46 y85) (Ak 1 (fun (i87:Env)=>tv))))) (Ak 5 tv))) ?_
    refine Ja0 ?_
    refine zC ([(1,CallSpec.eq (s11 (payF f (BilX.rate x) ls)) [true])]) [1,5,7,8,11,12,13,14] [8,256,312] (Ak 1 (An (An (An (zr (AV.agg (cFrm (payF f (BilX.rate x) ls)))) tv) (An (t11 (payF f (BilX.rate x) ls)) (An (o52 hpre y40 x43 hx43 y46 y85) (Ak 1 (fun (i88:Env)=>tv))))) (Ak 5 tv))) ?_
    refine Ja0 ?_
    refine Ja0 ?_
    refine zR [1,5,7,8,11,12,13,144] [8,256,312] (Ak 4 (An (fun (y89:(!!decide (Ja8 (payF f (BilX.rate x) ls)=Ja8 (payF f (BilX.rate x) ls)))=true)=>(An (Ak 1 tv) tv)) (An (fun (y90:(!!decide (Ja8 (payF f (BilX.rate x) ls)=Ja8 (payF f (BilX.rate x) ls)))=true)=>(An (An (fun (y91:(!!decide (Ja8 (payF f (BilX.rate x) ls)=Ja8 (payF f (BilX.rate x) ls)))=true)=>y90) (Ak 1 tv)) tv)) (An (fun (y92:(!!decide (Ja8 (payF f (BilX.rate x) ls)=Ja8 (payF f (BilX.rate x) ls)))=true)=>(An (An (fun (y93:(!!decide (Ja8 (payF f (BilX.rate x) ls)=Ja8 (payF f (BilX.rate x) ls)))=true)=>y92) tv) tv)) (An (fun (y94:(!!decide (Ja8 (payF f (BilX.rate x) ls)=Ja8 (payF f (BilX.rate x) ls)) && !decide (Ja8 (payF f (BilX.rate x) ls)=0))=true)=>(An (Ak 1 tv) tv)) (An (fun (y95:(!!decide (Ja8 (payF f (BilX.rate x) ls)=Ja8 (payF f (BilX.rate x) ls)) && !decide (Ja8 (payF f (BilX.rate x) ls)=0))=true)=>(An (An (fun (y96:(!!decide (Ja8 (payF f (BilX.rate x) ls)=Ja8 (payF f (BilX.rate x) ls)) && !decide (Ja8 (payF f (BilX.rate x) ls)=0))=true)=>y95) (Ak 1 tv)) tv)) (An (fun (y97:(!!decide (Ja8 (payF f (BilX.rate x) ls)=Ja8 (payF f (BilX.rate x) ls)))=true)=>(An (An (fun (y98:(!!decide (Ja8 (payF f (BilX.rate x) ls)=Ja8 (payF f (BilX.rate x) ls)))=true)=>y97) tv) (An (fun (y99:(!decide (Ja8 (payF f (BilX.rate x) ls)=0))=true)=>(o53 hpre y40 x43 hx43 y46 y85 y97 y99)) (fun (y100:(!decide (Ja8 (payF f (BilX.rate x) ls)=0))=false)=>tv)))) (An (An (fun (y101:(!decide (Ja8 (payF f (BilX.rate x) ls)=Ja8 (payF f (BilX.rate x) ls)))=true)=>tv) (fun (y102:(!decide (Ja8 (payF f (BilX.rate x) ls)=Ja8 (payF f (BilX.rate x) ls)))=false)=>(o54 hpre y40 x43 hx43 y46 y85 y102))) tv)))))))) ?_
    refine zI (bif !decide (Ja8 (payF f (BilX.rate x) ls)=Ja8 (payF f (BilX.rate x) ls)) then true else bif !decide (Ja8 (payF f (BilX.rate x) ls)=0) then !decide (Ja8 (payF f (BilX.rate x) ls)=3) else false) (fun y103 => ?_) (fun y103 => ?_)
    ·refine Ja0 ?_
     refine zR [6] [] (Ak 1 tv) ?_
     refine Ja5 ?_
     exact zT [] (An (Ak 1 tv) (An (An (cb (o55 hpre y40 x43 hx43 y46 y85 y103)) (zr nilN)) (An (zr true) (An (zr true) (zr true)))))
    ·refine Ja3 ?_
     refine Ja0 ?_
     refine Ja0 ?_
     refine zR [1,5,7,8,11,13,146] [8,256,312] (Ak 2 tv) ?_
     refine zI (!decide (Ja8 (payF f (BilX.rate x) ls)=0)) (fun y104 => ?_) (fun y104 => ?_)
     ·refine Ja0 ?_
      refine zC ([(0,CallSpec.eq s6 [])]) [6] [] (An (Ak 1 (An (t6) (Ak 2 (fun (i105:Env)=>tv)))) (Ak 1 tv)) ?_
      refine Ja5 ?_
      exact zT [] (An (Ak 1 tv) (An (An (zr (bv true)) (zr nilN)) (An (zr true) (An (zr true) (zr true)))))
     ·refine Ja3 ?_
      refine Ja0 ?_
      refine Ja0 ?_
      refine zC ([(5,CallSpec.eq (s12 (Jaj (payF f (BilX.rate x) ls)) 0 ((↑((payF f (BilX.rate x) ls).pieces.length):Int) - 1)) [true,true,true])]) [1,5,7,8,11,13,154] [8,256,312] (Ak 4 (An (o56 hpre y40 x43 hx43 y46 y85 y103 y104) (An (An (An (zr (Ja6 (Jaj (payF f (BilX.rate x) ls)))) (An (zr (iv 0)) (An (zr (iv ((↑((payF f (BilX.rate x) ls).pieces.length):Int) - 1))) tv))) (An (t12 (Jaj (payF f (BilX.rate x) ls)) (0) ((↑((payF f (BilX.rate x) ls).pieces.length):Int) - 1)) (An (o57 hpre y40 x43 hx43 y46 y85 y103 y104) (Ak 1 (fun (i106:Env)=>tv))))) (Ak 1 tv)))) ?_
      refine zI (!Jbg (Jaj (payF f (BilX.rate x) ls)) 0 ((↑((payF f (BilX.rate x) ls).pieces.length):Int) - 1)) (fun y107 => ?_) (fun y107 => ?_)
      ·refine Ja0 ?_
       refine zR [6] [] (Ak 1 tv) ?_
       refine Ja5 ?_
       exact zT [] (An (Ak 1 tv) (An (An (cb (o58 hpre y40 x43 hx43 y46 y85 y103 y104 y107)) (zr nilN)) (An (zr true) (An (zr true) (zr true)))))
      ·refine Ja3 ?_
       refine Ja0 ?_
       refine zC ([(4,CallSpec.eq (c3a f ls x) [true,false])]) [1,5,7,8,11,13,15,16] [8,256,312] (Ak 3 (An (o59 hpre y40 x43 hx43 y46 y85 y103 y104 y107) (An (An (An (zr (AV.agg (cBk (adB (BilX.rate x) ls)))) (An (An (zr 1) (An (o60 hpre y40 x43 hx43 y46 y85 y103 y104 y107) (fun (i108:Nat)=>(fun (y109:i108 < ls.length)=>(zr ([iv (ls.getD i108 0)])))))) tv)) (An (t13 (adB (BilX.rate x) ls) (ls)) (An (An (o61 hpre y40 x43 hx43 y46 y85 y103 y104 y107) (o62 hpre y40 x43 hx43 y46 y85 y103 y104 y107)) (Ak 1 (fun (i110:Env)=>tv))))) (Ak 5 tv)))) ?_
       refine Ja0 ?_
       refine zC ([(2,CallSpec.eq (s14 (adB (BilX.rate x) ls) (Jaj (payF f (BilX.rate x) ls))) [true,true]),(6,CallSpec.eq (c3l f ls x) [true,false])]) [1,5,7,8,13,15,16,17,18] [8,256,312] (Ak 2 (An (An (An (zr (AV.agg (cBk (adB (BilX.rate x) ls)))) (An (zr (Ja6 (Jaj (payF f (BilX.rate x) ls)))) tv)) (An (t14 (adB (BilX.rate x) ls) (Jaj (payF f (BilX.rate x) ls))) (An (An (o63 hpre y40 x43 hx43 y46 y85 y103 y104 y107) (o64 hpre y40 x43 hx43 y46 y85 y103 y104 y107)) (Ak 1 (fun (i111:Env)=>tv))))) (Ak 2 (An (o65 hpre y40 x43 hx43 y46 y85 y103 y104 y107) (An (An (An (zr (AV.agg (cBk (Jap (adB (BilX.rate x) ls) (Jaj (payF f (BilX.rate x) ls)))))) (An (An (zr 1) (An (o66 hpre y40 x43 hx43 y46 y85 y103 y104 y107) (fun (i112:Nat)=>(fun (y113:i112 < ls.length)=>(zr ([iv (ls.getD i112 0)])))))) tv)) (An (t13 (Jap (adB (BilX.rate x) ls) (Jaj (payF f (BilX.rate x) ls))) (ls)) (An (An (o67 hpre y40 x43 hx43 y46 y85 y103 y104 y107) (o68 hpre y40 x43 hx43 y46 y85 y103 y104 y107)) (Ak 1 (fun (i114:Env)=>tv))))) (Ak 5 tv)))))) ?_
       refine Ja0 ?_
       refine Ja0 ?_
       refine zR [1,5,7,8,13,15,185] [8,256,312] (Ak 3 (An (fun (y115:(!!decide (Jam (adB (BilX.rate x) ls) ls true=0))=true)=>(An (Ak 1 tv) tv)) (An (fun (y116:(!!decide (Jam (adB (BilX.rate x) ls) ls true=0))=true)=>(An (An (fun (y117:(!!decide (Jam (adB (BilX.rate x) ls) ls true=0))=true)=>y116) (Ak 1 tv)) tv)) (An (An (fun (y118:(!decide (Jam (adB (BilX.rate x) ls) ls true=0))=true)=>tv) (fun (y119:(!decide (Jam (adB (BilX.rate x) ls) ls true=0))=false)=>(o69 hpre y40 x43 hx43 y46 y85 y103 y104 y107 y119))) (Ak 1 (An (fun (y120:(!bif !decide (Jam (adB (BilX.rate x) ls) ls true=0) then true else !decide (Jam (Jap (adB (BilX.rate x) ls) (Jaj (payF f (BilX.rate x) ls))) ls true=0))=true)=>(An (Ak 1 tv) tv)) (An (fun (y121:(!bif !decide (Jam (adB (BilX.rate x) ls) ls true=0) then true else !decide (Jam (Jap (adB (BilX.rate x) ls) (Jaj (payF f (BilX.rate x) ls))) ls true=0))=true)=>(An (Ak 1 tv) tv)) (An (fun (y122:(!bif !decide (Jam (adB (BilX.rate x) ls) ls true=0) then true else !decide (Jam (Jap (adB (BilX.rate x) ls) (Jaj (payF f (BilX.rate x) ls))) ls true=0))=true)=>(An (An (fun (y123:(!bif !decide (Jam (adB (BilX.rate x) ls) ls true=0) then true else !decide (Jam (Jap (adB (BilX.rate x) ls) (Jaj (payF f (BilX.rate x) ls))) ls true=0))=true)=>y122) (An (fun (y124:(!bif !decide (Jam (adB (BilX.rate x) ls) ls true=0) then true else !decide (Jam (Jap (adB (BilX.rate x) ls) (Jaj (payF f (BilX.rate x) ls))) ls true=0))=true)=>y122) tv)) (o70 hpre y40 x43 hx43 y46 y85 y103 y104 y107 y122))) (An (fun (y125:(!bif !decide (Jam (adB (BilX.rate x) ls) ls true=0) then true else !decide (Jam (Jap (adB (BilX.rate x) ls) (Jaj (payF f (BilX.rate x) ls))) ls true=0))=true)=>(An (Ak 1 tv) tv)) (An (fun (y126:(!bif !decide (Jam (adB (BilX.rate x) ls) ls true=0) then true else !decide (Jam (Jap (adB (BilX.rate x) ls) (Jaj (payF f (BilX.rate x) ls))) ls true=0))=true)=>(An (An (fun (y127:(!bif !decide (Jam (adB (BilX.rate x) ls) ls true=0) then true else !decide (Jam (Jap (adB (BilX.rate x) ls) (Jaj (payF f (BilX.rate x) ls))) ls true=0))=true)=>y126) (An (fun (y128:(!bif !decide (Jam (adB (BilX.rate x) ls) ls true=0) then true else !decide (Jam (Jap (adB (BilX.rate x) ls) (Jaj (payF f (BilX.rate x) ls))) ls true=0))=true)=>y126) tv)) tv)) (An (An (fun (y129:(bif !decide (Jam (adB (BilX.rate x) ls) ls true=0) then true else !decide (Jam (Jap (adB (BilX.rate x) ls) (Jaj (payF f (BilX.rate x) ls))) ls true=0))=true)=>tv) (fun (y130:(bif !decide (Jam (adB (BilX.rate x) ls) ls true=0) then true else !decide (Jam (Jap (adB (BilX.rate x) ls) (Jaj (payF f (BilX.rate x) ls))) ls true=0))=false)=>(o71 hpre y40 x43 hx43 y46 y85 y103 y104 y107 y130))) tv))))))))))) ?_
       refine zI (bif bif !decide (Jam (adB (BilX.rate x) ls) ls true=0) then true else !decide (Jam (Jap (adB (BilX.rate x) ls) (Jaj (payF f (BilX.rate x) ls))) ls true=0) then true else !decide (Jc0 (adB (BilX.rate x) ls) ls - Jc0 (Jap (adB (BilX.rate x) ls) (Jaj (payF f (BilX.rate x) ls))) ls=JbW (payF f (BilX.rate x) ls))) (fun y131 => ?_) (fun y131 => ?_)
       ·refine Ja0 ?_
        refine zR [6] [] (Ak 1 tv) ?_
        refine Ja5 ?_
        exact zT [] (An (Ak 1 tv) (An (An (cb (o72 hpre y40 x43 hx43 y46 y85 y103 y104 y107 y131)) (zr nilN)) (An (zr true) (An (zr true) (zr true)))))
       ·refine Ja3 ?_
        refine Ja0 ?_
        refine Ja0 ?_
        refine zC ([(6,CallSpec.eq (s12 (BilX.out x) 0 ((↑((payF f (BilX.rate x) ls).pieces.length):Int) - 1)) [true,true,true]),(12,CallSpec.eq (s15 (payF f (BilX.rate x) ls) (BilX.out x)) [true,true])]) [1,5,8,13,15,200] [8,312] (Ak 5 (An (o73 hpre y40 x43 hx43 y46 y85 y103 y104 y107 y131) (An (An (An (zr (Ja6 (BilX.out x))) (An (zr (iv 0)) (An (zr (iv ((↑((payF f (BilX.rate x) ls).pieces.length):Int) - 1))) tv))) (An (t12 (BilX.out x) (0) ((↑((payF f (BilX.rate x) ls).pieces.length):Int) - 1)) (An (o74 hpre y40 x43 hx43 y46 y85 y103 y104 y107 y131) (Ak 1 (fun (i132:Env)=>tv))))) (Ak 2 (An (fun (y133:(!!Jbg (BilX.out x) 0 ((↑((payF f (BilX.rate x) ls).pieces.length):Int) - 1))=true)=>(An (Ak 1 tv) tv)) (An (fun (y134:(!!Jbg (BilX.out x) 0 ((↑((payF f (BilX.rate x) ls).pieces.length):Int) - 1))=true)=>(An (Ak 1 tv) tv)) (An (fun (y135:(!!Jbg (BilX.out x) 0 ((↑((payF f (BilX.rate x) ls).pieces.length):Int) - 1))=true)=>(An (An (fun (y136:(!!Jbg (BilX.out x) 0 ((↑((payF f (BilX.rate x) ls).pieces.length):Int) - 1))=true)=>y135) tv) tv)) (An (fun (y137:(!!Jbg (BilX.out x) 0 ((↑((payF f (BilX.rate x) ls).pieces.length):Int) - 1))=true)=>(An (Ak 1 (An (fun (y138:(!!Jbg (BilX.out x) 0 ((↑((payF f (BilX.rate x) ls).pieces.length):Int) - 1))=true)=>y137) (An (fun (y139:(!!Jbg (BilX.out x) 0 ((↑((payF f (BilX.rate x) ls).pieces.length):Int) - 1))=true)=>y137) tv))) (An (An (zr (AV.agg (cFrm (payF f (BilX.rate x) ls)))) (An (zr (Ja6 (BilX.out x))) tv)) (An (t15 (payF f (BilX.rate x) ls) (BilX.out x)) (An (An (o75 hpre y40 x43 hx43 y46 y85 y103 y104 y107 y131 y137) (An (o76 hpre y40 x43 hx43 y46 y85 y103 y104 y107 y131 y137) (o77 hpre y40 x43 hx43 y46 y85 y103 y104 y107 y131 y137))) (Ak 1 (fun (i140:Env)=>tv))))))) (An (fun (y141:(!!Jbg (BilX.out x) 0 ((↑((payF f (BilX.rate x) ls).pieces.length):Int) - 1))=true)=>(An (An (fun (y142:(!!Jbg (BilX.out x) 0 ((↑((payF f (BilX.rate x) ls).pieces.length):Int) - 1))=true)=>y141) tv) tv)) (An (An (fun (y143:(!Jbg (BilX.out x) 0 ((↑((payF f (BilX.rate x) ls).pieces.length):Int) - 1))=true)=>tv) (fun (y144:(!Jbg (BilX.out x) 0 ((↑((payF f (BilX.rate x) ls).pieces.length):Int) - 1))=false)=>(o78 hpre y40 x43 hx43 y46 y85 y103 y104 y107 y131 y144))) tv)))))))))) ?_
        refine zI (bif !Jbg (BilX.out x) 0 ((↑((payF f (BilX.rate x) ls).pieces.length):Int) - 1) then true else !canP (payF f (BilX.rate x) ls) (BilX.out x)) (fun y145 => ?_) (fun y145 => ?_)
        ·refine Ja0 ?_
         refine zC ([(0,CallSpec.eq s6 [])]) [6] [] (An (Ak 1 (An (t6) (Ak 2 (fun (i146:Env)=>tv)))) (Ak 1 tv)) ?_
         refine Ja5 ?_
         exact zT [] (An (Ak 1 tv) (An (An (zr (bv true)) (zr nilN)) (An (zr true) (An (zr true) (zr true)))))
        ·refine Ja3 ?_
         refine Ja0 ?_
         refine zC ([(3,CallSpec.eq (s14 (adB (BilX.rate x) ls) (BilX.out x)) [true,true]),(7,CallSpec.eq (c3x f ls x) [true,false])]) [13,15,19,20] [] (Ak 3 (An (An (An (zr (AV.agg (cBk (adB (BilX.rate x) ls)))) (An (zr (Ja6 (BilX.out x))) tv)) (An (t14 (adB (BilX.rate x) ls) (BilX.out x)) (An (An (o79 hpre y40 x43 hx43 y46 y85 y103 y104 y107 y131 y145) (o80 hpre y40 x43 hx43 y46 y85 y103 y104 y107 y131 y145)) (Ak 1 (fun (i147:Env)=>tv))))) (Ak 2 (An (o81 hpre y40 x43 hx43 y46 y85 y103 y104 y107 y131 y145) (An (An (An (zr (AV.agg (cBk (Jap (adB (BilX.rate x) ls) (BilX.out x))))) (An (An (zr 1) (An (o82 hpre y40 x43 hx43 y46 y85 y103 y104 y107 y131 y145) (fun (i148:Nat)=>(fun (y149:i148 < ls.length)=>(zr ([iv (ls.getD i148 0)])))))) tv)) (An (t13 (Jap (adB (BilX.rate x) ls) (BilX.out x)) (ls)) (An (An (o83 hpre y40 x43 hx43 y46 y85 y103 y104 y107 y131 y145) (o84 hpre y40 x43 hx43 y46 y85 y103 y104 y107 y131 y145)) (Ak 1 (fun (i150:Env)=>tv))))) (Ak 5 tv)))))) ?_
         refine Ja0 ?_
         refine zC ([(10,CallSpec.eq s6 [])]) [6] [] (Ak 3 (An (fun (y151:decide (Jam (Jap (adB (BilX.rate x) ls) (BilX.out x)) ls true=0)=true)=>(An (Ak 1 tv) tv)) (An (fun (y152:decide (Jam (Jap (adB (BilX.rate x) ls) (BilX.out x)) ls true=0)=true)=>(An (Ak 1 tv) tv)) (An (fun (y153:decide (Jam (Jap (adB (BilX.rate x) ls) (BilX.out x)) ls true=0)=true)=>(An (An (fun (y154:decide (Jam (Jap (adB (BilX.rate x) ls) (BilX.out x)) ls true=0)=true)=>y153) (An (fun (y155:decide (Jam (Jap (adB (BilX.rate x) ls) (BilX.out x)) ls true=0)=true)=>y153) tv)) (o85 hpre y40 x43 hx43 y46 y85 y103 y104 y107 y131 y145 y153))) (An (fun (y156:decide (Jam (Jap (adB (BilX.rate x) ls) (BilX.out x)) ls true=0)=true)=>(An (Ak 1 tv) tv)) (An (fun (y157:decide (Jam (Jap (adB (BilX.rate x) ls) (BilX.out x)) ls true=0)=true)=>(An (An (fun (y158:decide (Jam (Jap (adB (BilX.rate x) ls) (BilX.out x)) ls true=0)=true)=>y157) (An (fun (y159:decide (Jam (Jap (adB (BilX.rate x) ls) (BilX.out x)) ls true=0)=true)=>y157) tv)) tv)) (An (An (fun (y160:decide (Jam (Jap (adB (BilX.rate x) ls) (BilX.out x)) ls true=0)=true)=>y160) (fun (y161:decide (Jam (Jap (adB (BilX.rate x) ls) (BilX.out x)) ls true=0)=false)=>tv)) (Ak 1 (An (fun (y162:(bif decide (Jam (Jap (adB (BilX.rate x) ls) (BilX.out x)) ls true=0) then decide (JbW (payF f (BilX.rate x) ls)<=Jc0 (adB (BilX.rate x) ls) ls - Jc0 (Jap (adB (BilX.rate x) ls) (BilX.out x)) ls) else false)=true)=>(An (Ak 1 tv) (Ak 1 (An (t6) (Ak 2 (fun (i163:Env)=>tv)))))) (An (An (fun (y164:(bif decide (Jam (Jap (adB (BilX.rate x) ls) (BilX.out x)) ls true=0) then decide (JbW (payF f (BilX.rate x) ls)<=Jc0 (adB (BilX.rate x) ls) ls - Jc0 (Jap (adB (BilX.rate x) ls) (BilX.out x)) ls) else false)=true)=>y164) (fun (y165:(bif decide (Jam (Jap (adB (BilX.rate x) ls) (BilX.out x)) ls true=0) then decide (JbW (payF f (BilX.rate x) ls)<=Jc0 (adB (BilX.rate x) ls) ls - Jc0 (Jap (adB (BilX.rate x) ls) (BilX.out x)) ls) else false)=false)=>tv)) (Ak 1 tv))))))))))) ?_
         refine Ja5 ?_
         exact zT [] (An (Ak 1 tv) (An (An (cb (o86 hpre y40 x43 hx43 y46 y85 y103 y104 y107 y131 y145)) (zr nilN)) (An (zr true) (An (zr true) (zr true)))))
theorem cond5 {p q r s t:Bool} (h:(bif bif bif bif p then true else q then true else r then true else s then true else t)=false):p=false/\q=false/\r=false/\s=false/\t=false:=by
 cases p <;> cases q <;> cases r <;> cases s <;> cases t <;> simp_all
theorem cond9 {p q:Bool} (h:(bif p then true else q)=false):p=false/\q=false:=by cases p <;> cases q <;> simp_all
theorem Jlf {f:Frm} (h:farF f=false):Jai f:=by
 unfold farF at h
 rw [Bool.or_eq_false_iff] at h
 have h:=h.1
 unfold JeI at h
 simp only [Bool.or_eq_false_iff,decide_eq_false_iff_not,List.any_eq_false] at h
 obtain ⟨⟨⟨h1,h2⟩,h3⟩,h4⟩:=h
 refine ⟨by omega,by omega,by omega,fun i => ?_⟩
 by_cases hi:i < f.columns.length
 ·have:=h4 _ (Jbc f.columns [] hi)
  simp only [decide_eq_true_eq] at this
  show (f.columns.getD i []).length<=64
  omega
 ·have:col f i = []:=JbY _ _ (by omega)
  rw [this]; exact Nat.zero_le _
theorem chk9 {f:Frm} (h:(!decide (Jao f=0))=false):Jbj f=true:=by
 unfold Jao at h; cases e:Jbj f with
 | true=>rfl
 | false=>rw [e] at h; exact absurd h (by decide)
theorem chkB9 {b:Book} (h:(!decide (Jas b=0))=false):JaR b=true:=by
 unfold Jas at h; cases e:JaR b with
 | true=>rfl
 | false=>rw [e] at h; exact absurd h (by decide)
theorem ref9 {f:Frm} (h:Jbj f=true):Ja8 f=0 ∨ Ja8 f=3:=by
 unfold Ja8; rw [if_pos h]; split <;> simp
theorem ln_ad {r:Int} {ls:List Int} {i:Nat} (h:i < ls.length):lnB (adB r ls) i=Jdi (ls.getD i 0):=by
 show (ls.map Jdi).getD i default=_
 rw [Jaf _ _ (by simpa using h),List.getElem_map,Jaf _ _ h]
theorem sh_ad {r:Int} {ls:List Int} {i:Nat} (h:i < ls.length):shB (adB r ls) i=JbO i:=by
 show ((List.range ls.length).map JbO).getD i default=_
 rw [Jaf _ _ (by simpa using h),List.getElem_map,List.getElem_range]
theorem pay_at {f:Frm} {r:Int} {ls:List Int} {i:Nat} (h:i < f.pieces.length):pc (payF f r ls) i=JdN f r ls f.pieces.length i:=by
 rw [Jph f r ls h]; unfold JdN; rw [if_pos h]
theorem JiB {f:Frm} (r:Int) (ls:List Int) (h:Jai f):Jai (payF f r ls):=⟨h.1,by rw [JfT]; exact h.2.1,h.2.2.1,h.2.2.2⟩
theorem Jeh {r:Int} {ls:List Int} (h:ls.length<=64):JaZ (adB r ls):=⟨by rw [Jck]; exact h,by rw [JfS]; exact h,Nat.zero_le _⟩
theorem Jkr {r:Int} {ls:List Int} (out:List Int) (h:ls.length<=64):JaZ (Jap (adB r ls) out) :=
 ⟨(Jeh (r:=r) h).1,Nat.le_trans (List.length_filter_le _ _) (Jeh (r:=r) h).2.1,Nat.zero_le _⟩
theorem giv9 {b:Book} {ls:List Int} (h1:JaR b=true) (h2:Jg5 b ls=true):Jam b ls true=0/\Jc0 b ls=(Jb3 b ls).2:=by
 have h3:JcF b ls=true:=h2
 unfold Jam JcZ Jc0; rw [h1,h3]; exact ⟨rfl,rfl⟩
theorem t3 (f:Frm) (ls:List Int) (x:BilX):Ja4 Tryz.prog 3 (s3 f ls x):=by
 apply w3
 all_goals (try delta q8c q8d q8e q8f q8g q8h q8i q8j q8k q8l q8m q8n)
 all_goals (rintro ⟨hp,hp1,hp2⟩)
 case o0 | o1 | o2 | o3=>all_goals (intros; rename_i h; rw [h]; rfl)
 all_goals (intro h; obtain ⟨f1,f2,f3,f4,f5⟩:=cond5 h; have hsm:=Jlf f1; have hok:=chk9 f2; simp only [Bool.not_eq_false',decide_eq_false_iff_not,decide_eq_true_eq] at f3 f4 f5)
 all_goals (have hll:ls.length=f.pieces.length:=by omega)
 all_goals (have hbg:(100000:Nat)<=big:=by decide)
 case o4=>exact hsm
 case o5=>rfl
 case o6=>intro i _; unfold JdN; rw [if_neg (Nat.not_lt_zero _)]
 case o7=>exact ⟨Nat.zero_le _,fun j hj=>absurd hj (Nat.not_lt_zero _)⟩
 all_goals (rintro i ⟨hi,hw⟩ hl; simp only [decide_eq_true_eq,decide_eq_false_iff_not] at hl)
 all_goals (try omega)
 case o10=>intro h2; rw [h2]; rfl
 case o34=>intro k hk; rw [Jck] at hk; rw [ln_ad hk]
 case o36=>intro k hk; rw [JfS] at hk; rw [sh_ad hk]
 case o33=>rw [Jck]; omega
 case o35=>rw [JfS]; omega
 case o37 | o38 | o39 | o40 | o41 | o42 | o46=>all_goals rfl
 case o43 | o47=>all_goals (intro k _; rfl)
 case o44=>exact (JfT f x.rate ls).symm
 case o45=>intro k hk; rw [JfT] at hk; rw [pay_at hk,show i=f.pieces.length by omega]
 case o48=>have:=Jeh (r:=x.rate) (ls:=ls) (by omega); exact ⟨by have:=this.1; omega,by have:=this.2.1; omega,Nat.zero_le _⟩
 all_goals (intro h2)
 case o49=>have:=JiB x.rate ls hsm; exact ⟨by have:=this.1; omega,by have:=this.2.1; omega,by have:=this.2.2.1; omega,fun k=>by have:=this.2.2.2 k; omega⟩
 case o50=>rw [h2]; rfl
 case o51 | o52=>all_goals exact JiB x.rate ls hsm
 all_goals (have h2':=cond9 h2)
 case o28 =>
  intro k hk
  refine JdL (fun h => ?_) (fun h => ?_)
  ·unfold JdN
   by_cases c:k < i
   ·rw [if_pos c,if_pos (by omega)]
   ·rw [if_neg c,if_neg (by omega)]
  ·subst h
   unfold JdN
   rw [if_neg (Nat.lt_irrefl _),if_pos (Nat.lt_succ_self _)]; rfl
 case o29=>intro k hk; exact Jh7 (fun j=>Jb6 (Jdi (ls.getD j 0))) rfl hk
 case o30=>intro k hk; exact Jh7 (fun j=>cShn (JbO j)) rfl hk
 case o31=>exact ⟨by omega,Jad hw (by simpa using h2'.1)⟩
 case o16 =>
  obtain ⟨w1,w2⟩:=h2'
  simp only [Bool.not_eq_false',Go.Sh.JaB] at w1 w2
  have m1:=Int.mul_nonneg w2.1 w1.1
  have m2:x.rate * ls.getD i 0<=9 * 9:=Int.mul_le_mul w2.2 w1.2 w1.1 (by omega)
  simp only [inI]; omega
 all_goals (try (first | omega | (simp only [inI]; omega)))
 all_goals (obtain ⟨k1,k2⟩:=h2'; have hB:=chkB9 k1; have hF:=chk9 k2; have hE:=ref9 hF; have hA:Jg5 (adB x.rate ls) ls=true:=Jp0 fun j hj=>hw j (by omega))
 case o53=>intro h3; rw [h3]; simp
 case o54=>simp
 case o55=>intro h3; rcases hE with e | e <;> rw [e] at h3 <;> exact absurd h3 (by decide)
 all_goals (intro h3 h4)
 all_goals (have e0:Ja8 (payF f x.rate ls)=0:=by simpa using h4)
 all_goals (obtain ⟨r1,r2,r3,_,r5⟩:=Jl4 e0; have hrl:=Jjx (payF f x.rate ls); have hpl:=JfT f x.rate ls)
 all_goals (try (first | omega | (simp only [inI]; omega)))
 case o58=>intro h5; rw [Jnp.2 r1] at h5; cases h5
 all_goals (intro h5)
 all_goals (try (first | omega | exact Jeh (by omega) | exact Jkr _ (by omega)))
 all_goals (have g1:=giv9 hB hA; have g2:=giv9 (Jns (Jaj (payF f x.rate ls)) hB) (Jeg _ hA); have g3:=Jgy hll hB hA r1)
 all_goals (rw [r2] at g3)
 all_goals (rw [← g1.2,← g2.2] at g3)
 all_goals (have b1:=Jjv (Jci hB) (Jeb hA))
 all_goals (rw [← g1.2] at b1)
 all_goals (have b2:=Jjv (Jci (Jns (Jaj (payF f x.rate ls)) hB)) (Jeb (Jeg (Jaj (payF f x.rate ls)) hA)))
 all_goals (rw [← g2.2] at b2)
 case o69=>intro h6; rw [h6]; rfl
 case o70=>intro _; simp only [inI]; omega
 case o71=>intro h6; rw [h6]; rfl
 case o72=>intro h6; rw [g1.1,g2.1,g3] at h6; simp at h6
 all_goals (intro h6)
 all_goals (try (first | omega | (simp only [inI]; omega)))
 all_goals (intro h7)
 case o75=>exact Jds hF
 case o76=>rw [JmS f (payF f x.rate ls) rfl]; exact JoR f1 hok
 case o78=>rw [h7]; rfl
 all_goals (try (first | omega | exact Jeh (by omega) | exact Jkr _ (by omega)))
 all_goals (obtain ⟨j1,j2⟩:=cond9 h7; simp only [Bool.not_eq_false'] at j1 j2; have j3:=Jnp.1 j1)
 all_goals (have g4:=giv9 (Jns x.out hB) (Jeg x.out hA); have g5:=Jgy hll hB hA j3; rw [← g1.2,← g4.2] at g5)
 all_goals (have b3:=Jjv (Jci (Jns x.out hB)) (Jeb (Jeg x.out hA)); rw [← g4.2] at b3)
 case o85=>intro _; simp only [inI]; omega
 all_goals (
  have r6:=r5 _ j3 j2
  have r7:JbW (payF f x.rate ls)<=Jau (payF f x.rate ls) x.out:=by
   refine Int.not_lt.1 fun hlt=>r6 (.inl ?_)
   rw [r2]; exact hlt
  rw [g4.1,g5,decide_eq_true r7]; rfl)
end Go.Ab
namespace Go.Ab
open Go Go.RowKit
def Dec (P:Program) (t:TypeId) {α:Type} (c:α->List AV) (ok:α->Prop):Prop :=
 ∀ {H:Type} (enc:TypeId × Value->H) (w:World) (E:Env) (fuel:Nat) (cs:List Value) (d:DataW H) (ps:List MemPlace),
  (∀ b,E.M b=w.heap[b]?)->DataW.trod enc P w 0 (fun _=>true) true fuel t cs=some (d,ps)->(∀ n ∈ d.weights P t,n<=reachBytes) -> ∃ a,ok a /\ ∀ o,RelL E o (c a) cs
theorem Jks {E:Env} {w:World} (h:∀ b,E.M b=w.heap[b]?) {a:Addr} {v:Value} (hc:w.cell? a=some v):a.spot=none/\Jc8 E.M a.block a.off=some v:=by
 refine ⟨World.cell?_spot hc,?_⟩
 have hs:=World.cell?_spot hc
 unfold World.cell? at hc
 unfold Jc8
 rw [h]
 split at hc
 ·rename_i c t fr e
  rw [hs] at hc
  rw [e]
  simpa using hc
 ·cases hc
theorem lit_wf {n:Int} (h:(Lit.int .i64 n).wf=true) : -9223372036854775808<=n/\n<=9223372036854775807:=by
 simpa [Lit.wf,IntKind.min,IntKind.max,IntKind.signed,IntKind.bits] using h
theorem Jqv {P:Program} {t:TypeId} (ht:P.underlying t=some (.int .i64)):Dec P t (fun n=>[iv n]) (fun n => -9223372036854775808<=n/\n<=9223372036854775807):=by
 intro H enc w E fuel cs d ps _ h _
 obtain ⟨n,rfl,_,hw⟩:=DataW.trod_int ht h
 exact ⟨n,lit_wf hw,fun o => .cons (.lit _) rfl .nil⟩
theorem Jg6 {H:Type} {P:Program} {e:TypeId}:∀ {l:List (DataW H)} {d:DataW H},d ∈ l -> ∀ n ∈ d.weights P e,n ∈ DataW.weightsAll P e l:=by
 intro l
 induction l with
 | nil=>intro d h; cases h
 | cons x l ih =>
  intro d h n hn
  rw [DataW.weightsAll,List.mem_append]
  rcases List.mem_cons.1 h with rfl | h
  ·exact .inl hn
  ·exact .inr (ih h n hn)
theorem Jei {P:Program} {t e:TypeId} {α:Type} [Inhabited α] {c:α->List AV} {ok:α->Prop} (ht:P.underlying t=some (.slice e)) {sz:Nat} (hsz:P.cellsOf e=sz) (hpos:0 < sz) (hby:0 < P.bytesOf e) (he:Dec P e c ok) :
  Dec P t (fun l:List α=>[.sl sz l.length (fun i=>c (l.getD i default))]) (fun l=>l.length<=140737488355328 /\ ∀ a,a ∈ l->ok a):=by
 intro H enc w E fuel cs d ps hE h hw
 rcases Deep.open_slice ht h with ⟨rfl,hx⟩ | ⟨a,len,cap,m,n,D,Pl,rfl,hb,hl,hm,hmm,hx,hall⟩
 ·refine ⟨[],⟨Nat.zero_le _,fun a ha=>by cases ha⟩,fun o => ?_⟩
  exact .cons (.slN _ _) rfl .nil
 ·simp only [if_true] at hmm
  subst hmm
  rw [hsz] at hall
  obtain ⟨rfl,rfl⟩:=Prod.mk.inj hx
  have hwt:∀ i,i < len -> ∀ k ∈ (D i).weights P e,k<=reachBytes:=by
   intro i hi k hk
   refine hw k ?_
   rw [DataW.weights,ht]
   refine List.mem_cons_of_mem _ (List.mem_append_left _ (Jg6 (d:=D i) ?_ k hk))
   exact List.mem_map.2 ⟨i,List.mem_range.2 hi,rfl⟩
  have hlen:len<=140737488355328:=by
   have h1:(((List.range len).map D).length + ((List.range (m - len)).map fun j=>D (len + j)).length) * P.bytesOf e<=reachBytes:=by
    refine hw _ ?_
    rw [DataW.weights,ht]
    exact List.mem_cons_self ..
   simp only [List.length_map,List.length_range] at h1
   have h2:len<=(len + (m - len)) * P.bytesOf e:=Nat.le_trans (Nat.le_add_right _ _) (Nat.le_mul_of_pos_right _ hby)
   have h3:=reachBytes_lt
   omega
  obtain ⟨g,hg⟩:=Deep.choose_lt (α:=List Value) (p:=fun i cs'=>w.cells? 0 (a.add (i * sz)) sz=some cs'/\DataW.trod enc P w 0 (fun _=>true) true n e cs'=some (D i,Pl i)) hall
  have hdec:∀ i,i < len -> ∃ x,ok x /\ ∀ o,RelL E o (c x) (g i):=fun i hi=>he enc w E n (g i) (D i) (Pl i) hE (hg i (by omega)).2 (hwt i hi)
  obtain ⟨A,hA⟩:=Deep.choose_lt (α:=α) (p:=fun i x=>ok x /\ ∀ o,RelL E o (c x) (g i)) hdec
  refine ⟨(List.range len).map A,⟨by simpa using hlen,fun x hx => ?_⟩,fun o => .cons ?_ rfl .nil⟩
  ·obtain ⟨i,hi,rfl⟩:=List.mem_map.1 hx
   exact (hA i (List.mem_range.1 hi)).1
  ·rw [List.length_map,List.length_range]
   have hcell:∀ i k,i < m->k < sz -> ∃ v,(g i)[k]? = some v/\w.cell? ((a.add (i * sz)).add k)=some v:=by
    intro i k hi hk
    obtain ⟨_,hl1,hl2⟩:=World.cells?_some (hg i hi).1
    have:=hl2 k hk
    obtain ⟨v,hv⟩:∃ v,(g i)[k]? = some v:=⟨_,List.getElem?_eq_getElem (by omega)⟩
    exact ⟨v,hv,by rw [this,hv]⟩
   by_cases h0:m=0
   ·subst h0
    obtain rfl:len=0:=by omega
    exact .slZ _ _ _
   ·obtain ⟨v,_,hv⟩:=hcell 0 0 (by omega) hpos
    have hsp:=(Jks hE hv).1
    obtain ⟨b,off,spot⟩:=a
    obtain rfl:spot=none:=by simpa [Addr.add] using hsp
    refine .slA sz len _ b off m g hl hm (fun i hi => ?_) (fun i k hi hk => ?_) (fun i hi => ?_)
    ·exact (World.cells?_some (hg i (by omega)).1).2.1
    ·obtain ⟨v,hv1,hv2⟩:=hcell i k (by omega) hk
     rw [hv1]
     have:=(Jks hE hv2).2
     rw [Jbb,Jbb] at this
     exact this
    ·have:((List.range len).map A).getD i default=A i:=by
      rw [List.getD_eq_getElem?_getD,List.getElem?_map,List.getElem?_range hi]; rfl
     rw [this]
     exact (hA i hi).2 false
def Jp3 (P:Program) (off fin:Nat) (fs:List Field) {α:Type} (c:α->List AV) (ok:α->Prop):Prop :=
 ∀ {H:Type} (enc:TypeId × Value->H) (w:World) (E:Env) (n:Nat) (cs:List Value) (xs:List (DataW H × List MemPlace)),
  (∀ b,E.M b=w.heap[b]?)->cs.length=fin->xs.length=fs.length->(∀ (i:Nat) (f:Field),fs[i]? = some f->DataW.trod enc P w 0 (fun _=>true) true n f.type ((cs.drop f.offset).take (P.cellsOf f.type))=xs[i]?) →
  (∀ k ∈ DataW.weightsEach P (fs.map (·.type)) (xs.map (·.1)),k<=reachBytes) -> ∃ a,ok a /\ ∀ o,RelL E o (c a) (cs.drop off)
theorem Jdj {P:Program} {fin:Nat}:Jp3 P fin fin [] (fun _:Unit=>[]) (fun _=>True):=by
 intro H enc w E n cs xs _ hl _ _ _
 refine ⟨(),trivial,fun o => ?_⟩
 rw [List.drop_of_length_le (by omega)]
 exact .nil
theorem Jb7 {P:Program} {off mid fin:Nat} {f:Field} {fs:List Field} {α β:Type} {c1:α->List AV} {ok1:α->Prop} {c2:β->List AV} {ok2:β->Prop} {t:TypeId} (hft:f.type=t) (ho:f.offset=off) (hm:off + P.cellsOf t=mid)
  (h1:Dec P t c1 ok1) (h2:Jp3 P mid fin fs c2 ok2):Jp3 P off fin (f :: fs) (fun p:α × β=>c1 p.1 ++ c2 p.2) (fun p=>ok1 p.1/\ok2 p.2):=by
 intro H enc w E n cs xs hE hl hx hall hw
 subst hft; subst ho; subst hm
 cases xs with
 | nil=>simp at hx
 | cons x xs =>
  have h0:=hall 0 f rfl
  simp only [List.getElem?_cons_zero] at h0
  obtain ⟨a,ha,hra⟩:=h1 enc w E n _ x.1 x.2 hE h0 (fun k hk=>hw k (by
   simp only [List.map_cons,DataW.weightsEach]
   exact List.mem_append_left _ hk))
  obtain ⟨b,hb,hrb⟩:=h2 enc w E n cs xs hE hl (by simpa using hx) (fun i g hg=>by
   have:=hall (i + 1) g (by simpa using hg)
   simpa using this) (fun k hk=>hw k (by
   simp only [List.map_cons,DataW.weightsEach]
   exact List.mem_append_right _ hk))
  refine ⟨(a,b),⟨ha,hb⟩,fun o => ?_⟩
  have:=(hra o).append (hrb o)
  rw [← List.drop_drop,List.take_append_drop] at this
  exact this
theorem JcJ {P:Program} {t:TypeId} {fs:Array Field} {sz:Nat} {α:Type} {c:α->List AV} {ok:α->Prop} (ht:P.underlying t=some (.struct fs)) (hsz:P.cellsOf t=sz) (h:Jp3 P 0 sz fs.toList c ok):Dec P t c ok:=by
 intro H enc w E fuel cs d ps hE hd hw
 obtain ⟨xs,n,_,hx,hl,hxl,hall⟩:=DataW.trod_struct ht hd
 obtain ⟨rfl,rfl⟩:=Prod.mk.inj hx
 obtain ⟨a,ha,hr⟩:=h enc w E n cs xs hE (by omega) (by simpa using hxl) (fun i f hf=>hall i f (by simpa using hf)) (fun k hk=>hw k (by rw [DataW.weights,ht]; exact hk))
 exact ⟨a,ha,fun o=>by simpa using hr o⟩
theorem Dec.map {P:Program} {t:TypeId} {α β:Type} {c:α->List AV} {ok:α->Prop} {c':β->List AV} {ok':β->Prop} (h:Dec P t c ok) (g:α->β) (hc:∀ a,ok a->c' (g a)=c a) (hok:∀ a,ok a->ok' (g a)):Dec P t c' ok':=by
 intro H enc w E fuel cs d ps hE hd hw
 obtain ⟨a,ha,hr⟩:=h enc w E fuel cs d ps hE hd hw
 exact ⟨g a,hok a ha,fun o=>by rw [hc a ha]; exact hr o⟩
theorem Dec.arg {P:Program} {t:TypeId} {α:Type} {c:α->List AV} {ok:α->Prop} (h:Dec P t c ok) {H:Type} {enc:TypeId × Value->H} {w:World} {E:Env} (hE:∀ b,E.M b=w.heap[b]?) {v:Value} {d:DataW H} {ps:List MemPlace}
  (hd:DataW.Trod enc P w 0 (fun _=>true) true t v d ps) (hw:∀ n ∈ d.weights P t,n<=reachBytes):∃ a,ok a /\ ∀ o,RelL E o (c a) v.cells.toList:=by
 obtain ⟨fuel,hf⟩:=hd
 exact h enc w E fuel _ d ps hE hf hw
def JiC (w:World):Env:={ M:=fun b=>w.heap[b]?,blk:=fun _=>none,hdr:=fun _=>none,fns:=fun _ _=>False }
theorem Jnv (P:Program) (w:World):HeapOK (Jat P (JiC w) w []) (JiC w) (Heap.of []) w where
 os:=rfl
 tape:=rfl
 output:=rfl
 size:=Nat.le_refl _
 pres:=fun _ _=>rfl
 mem:=fun _ _ h=>h
 le:=Env.le.refl _
 ext:=fun _ _ h => .inl h
 own:=fun id ob h=>by cases h
 sep:=fun i j k _ h=>absurd rfl h
theorem Jhq {H:Type} {enc:TypeId × Value->H} {P:Program} (hl:laidOutB P=true) {W W':World} (hb:Below W.heap.size W W'):∀ {ts:List TypeId} {vs:List Value} {ds:List (DataW H)} {ps:List MemPlace},
  (∀ t ∈ ts,P.readableRec t=true/\t < P.types.size)->DataW.TrodAll enc P W 0 (fun _=>true) true ts vs ds ps->(∀ x ∈ ps,x.block < W.heap.size) →
  DataW.TrodAll enc P W' 0 (fun b=>decide (b < W.heap.size)) true ts vs ds ps:=by
 intro ts
 induction ts with
 | nil =>
  intro vs ds ps _ h _
  obtain ⟨rfl,rfl,rfl⟩:=ChangeShapes.trodAll_nil h
  exact ChangeShapes.trodAll_mk0
 | cons t ts ih =>
  intro vs ds ps hr h hlt
  obtain ⟨v,vs',d,ds',p,q,rfl,rfl,rfl,hd,hrest⟩:=ChangeShapes.trodAll_cons h
  obtain ⟨h1,h2⟩:=hr t (List.mem_cons_self ..)
  exact ⟨p,q,Below.trod hl h1 h2 hd hb (fun x hx=>hlt x (List.mem_append_left _ hx)),ih (fun t ht=>hr t (List.mem_cons_of_mem _ ht)) hrest (fun x hx=>hlt x (List.mem_append_right _ hx)),rfl⟩
theorem JiD {P:Program} (hl:laidOutB P=true) {f:FuncId} {fn:Func} {s:ChangeSpec} (hvars:s.vars = []) {tb:TypeId} (hres:fn.resultTypes = #[tb]) (htb:P.underlying tb=some .bool)
  (hread:∀ t ∈ fn.params.toList,P.readableRec t=true/\t < P.types.size)
  {H:Type} {enc:TypeId × Value->H} {W:World} {args:Array Value} {ds gs:List (DataW H)} {before:List MemPlace}
  (hfn:ds.length=fn.params.size->s.fn H ds = { results:=[.lit (.bool true)],args:=ds })
  (hW:DataW.Whole enc P fn.params.toList s.vars false W args.toList ds gs before) {sp:CallSpec} (ht:Ja4 P f sp) (hp:sp.pre) (hfo:∀ E,sp.fnok E) (hin:sp.hin = []) (hout:sp.hout = []) (hr:sp.res=bv true)
  (hla:args.toList.length=sp.args.length) (hra:∀ k,Rel (JiC W) true (sp.args.getD k .any) (args.toList.getD k undef)) :
  Calls P f args W fun e W' => ∃ v,e = .returned v/\s.post enc P fn false true false false W args v W':=by
 have hok:=Jnv P W
 have h:=ht.2 hp (JiC W) W args.toList (hfo _) (by rw [hin]; exact hok) hla hra
 refine (h (by rw [hout]; intro p hp; cases hp)).mono fun e W' hpost => ?_
 obtain ⟨v,E',he,hh,hv,_⟩:=hpost
 rw [hr] at hv
 have hvt:v = .bool true:=by cases hv; rfl
 subst hvt
 have hb:Below W.heap.size W W':=⟨hh.os,hh.tape,hh.output,hh.size,fun k hk=>hh.pres k (by
  rintro (hc | ⟨q,hq,_⟩)
  ·exact absurd hk (Nat.not_lt.2 hc)
  ·rw [hin] at hq; cases hq)⟩
 refine ⟨_,he,?_⟩
 have hW':=hW
 obtain ⟨p,q,hA,hV,rfl,hz,hnd⟩:=hW
 rw [hvars] at hV
 obtain ⟨rfl,rfl⟩:=ChangeShapes.trodVars_none hV
 have hlen:ds.length=fn.params.size:=by
  have:∀ {ts:List TypeId} {vs:List Value} {ds:List (DataW H)} {ps:List MemPlace},DataW.TrodAll enc P W 0 (fun _=>true) true ts vs ds ps->ds.length=ts.length:=by
   intro ts
   induction ts with
   | nil=>intro vs ds ps h; obtain ⟨_,rfl,_⟩:=ChangeShapes.trodAll_nil h; rfl
   | cons t ts ih=>intro vs ds ps h; obtain ⟨_,_,_,_,_,_,rfl,rfl,rfl,_,hr⟩:=ChangeShapes.trodAll_cons h; simp [ih hr]
  simpa using this hA
 refine ⟨ds,[],p ++ [],[],p,[],hW',?_,?_,?_,hb.frame _,fun h=>by cases h⟩
 ·rw [List.append_nil,hfn hlen,hres]
  exact ChangeShapes.trodAll_mk1 (shut_bool htb true)
 ·rw [List.append_nil,hfn hlen]
  exact Jhq hl hb hread hA (fun x hx=>hW'.lt x (List.mem_append_left _ hx))
 ·rw [List.append_nil,hfn hlen,hvars]
  rfl
end Go.Ab
namespace Go.Ab
open Go Go.RowKit Go.Proofs Go.Sh Go.En
theorem dInt:Dec Tryz.prog 3 (fun n=>[iv n]) (fun n => -9223372036854775808<=n/\n<=9223372036854775807):=Jqv Tryz.underlying3
theorem Jqw:Dec Tryz.prog 27 (fun l:List Int=>[Ja6 l]) (fun l=>l.length<=140737488355328) :=
 Dec.map (Jei (α:=Int) Tryz.underlying27 (by kernel_rfl) (by decide) (Nat.lt_of_lt_of_eq (by decide:0 < 8) (by kernel_rfl)) dInt) id (fun _ _=>rfl) (fun _ h=>h.1)
set_option maxRecDepth 100000
theorem Jqx:laidOutB Tryz.prog=true:=by kernel_rfl
section
variable {H:Type} {enc:TypeId × Value->H} {W:World} {base:Nat} {v:Value} {d:DataW H} {ps:List MemPlace}
theorem Jlg {t:TypeId} {fs:Array Field} {α:Type} {c:α->List AV} {ok:α->Prop} (ht:Tryz.prog.underlying t=some (.struct fs)) (hD:Dec Tryz.prog t c ok) (hval:Value.okWide Tryz.prog W .any base t v) (hd:DataW.Trod enc Tryz.prog W 0 (fun _=>true) true t v d ps) (hw:∀ n ∈ d.weights Tryz.prog t,n<=reachBytes) :
  ∃ a,ok a/\Rel (JiC W) true (.agg (c a)) v:=by
 unfold Value.okWide at hval
 rw [ht] at hval
 obtain ⟨cs,rfl,_⟩:=hval
 obtain ⟨a,ha,hr⟩:=hD.arg (E:=JiC W) (fun _=>rfl) hd hw
 refine ⟨a,ha,?_⟩
 have h:=Rel.agg (hr true)
 simpa [Value.cells] using h
end
theorem Jdk {H:Type} {ts:List TypeId} {ds:List (DataW H)} (h:(DataW.weightsEach Tryz.prog ts ds).all (· <= reachBytes)=true) {j:Nat} {t:TypeId} {d:DataW H} (ht:ts[j]? = some t) (hd:ds[j]? = some d):∀ n ∈ d.weights Tryz.prog t,n<=reachBytes:=by
 intro n hn
 have:=List.all_eq_true.1 h _ (DataW.weights_mem_each ht hd n hn)
 simpa using this
def ArgD (t:TypeId) (α:Type) (c:α->AV) (ok:α->Prop):Prop :=
 (Tryz.prog.readableRec t=true/\t < Tryz.prog.types.size) /\ ∀ {H:Type} {enc:TypeId × Value->H} {W:World} {base:Nat} {v:Value} {d:DataW H} {ps:List MemPlace},Value.okWide Tryz.prog W .any base t v->DataW.Trod enc Tryz.prog W 0 (fun _=>true) true t v d ps->(∀ n ∈ d.weights Tryz.prog t,n<=reachBytes) -> ∃ a,ok a/\Rel (JiC W) true (c a) v
abbrev i64 (n:Int):Prop := -9223372036854775808<=n/\n<=9223372036854775807
theorem JiE {t:TypeId} {fs:Array Field} {α:Type} {c:α->List AV} {ok:α->Prop} (ht:Tryz.prog.underlying t=some (.struct fs)) (hr:Tryz.prog.readableRec t=true/\t < Tryz.prog.types.size) (hD:Dec Tryz.prog t c ok):ArgD t α (fun a => .agg (c a)) ok:=⟨hr,fun hv hd hw=>Jlg ht hD hv hd hw⟩
theorem Jqy:ArgD 27 (List Int) Ja6 (fun l=>l.length<=140737488355328):=⟨⟨by kernel_rfl,of_decide_eq_true (by kernel_rfl)⟩,fun {_ _ W _ v _ _} hval hd hw=>by
 obtain ⟨a,ha,hr⟩:=Jqw.arg (E:=JiC W) (fun _=>rfl) hd hw
 refine ⟨a,ha,?_⟩
 have h:=hr true
 unfold Value.okWide at hval
 rw [Tryz.underlying27] at hval
 cases v with
 | agg cs=>unfold Cell.okWide at hval; rw [Tryz.underlying27] at hval; simp [Cell.ok,Tryz.underlying27] at hval
 | _=>cases h with | cons h _ _=>exact h⟩
theorem Jnw {f:FuncId} {fn:Func} {s:ChangeSpec} {t1 t2 t3:TypeId} {α β γ:Type} {c1:α->AV} {c2:β->AV} {c3:γ->AV} {ok1:α->Prop} {ok2:β->Prop} {ok3:γ->Prop} (h1:ArgD t1 α c1 ok1) (h2:ArgD t2 β c2 ok2) (h3:ArgD t3 γ c3 ok3)
  (hps:fn.params = #[t1,t2,t3]) (hres:fn.resultTypes = #[4]) (hvars:s.vars = []) (hfn:∀ (H:Type) (d1 d2 d3:DataW H),s.fn H [d1,d2,d3] = { results:=[.lit (.bool true)],args:=[d1,d2,d3] })
  (sp:α->β->γ->CallSpec) (ht:∀ r a b,Ja4 Tryz.prog f (sp r a b)) (hargs:∀ r a b,(sp r a b).args = [c1 r,c2 a,c3 b]) (hpre:∀ r a b,ok1 r->ok2 a->ok3 b->(sp r a b).pre)
  (hfo:∀ r a b E,(sp r a b).fnok E) (hin:∀ r a b,(sp r a b).hin = []) (hout:∀ r a b,(sp r a b).hout = []) (hr:∀ r a b,(sp r a b).res=bv true)
  {H:Type} {enc:TypeId × Value->H} {W:World} {base:Nat} {args:Array Value} {ds gs:List (DataW H)} {before:List MemPlace}
  (hval:∀ (j:Nat) t v,fn.params[j]? = some t->args[j]? = some v->Value.okWide Tryz.prog W .any base t v) (hW:DataW.Whole enc Tryz.prog fn.params.toList s.vars false W args.toList ds gs before)
  (hsz:(DataW.weightsEach Tryz.prog (fn.params.toList ++ s.plain.varTypes Tryz.prog) (ds ++ gs)).all (· <= reachBytes)=true) :
  Calls Tryz.prog f args W fun e W' => ∃ v,e = .returned v/\s.post enc Tryz.prog fn false true false false W args v W':=by
 have hW':=hW
 obtain ⟨p,q,hA,_,_,_,_⟩:=hW
 rw [hps] at hA hval hsz
 obtain ⟨v0,v1,v2,d0,d1,d2,p0,p1,p2,rfl,rfl,rfl,g0,g1,g2⟩:=ChangeShapes.trodAll_three hA
 obtain ⟨r,hr0,r0⟩:=h1.2 (hval 0 t1 v0 rfl rfl) g0 (Jdk hsz (j:=0) rfl rfl)
 obtain ⟨a,ha,r1⟩:=h2.2 (hval 1 t2 v1 rfl rfl) g1 (Jdk hsz (j:=1) rfl rfl)
 obtain ⟨b,hb,r2⟩:=h3.2 (hval 2 t3 v2 rfl rfl) g2 (Jdk hsz (j:=2) rfl rfl)
 refine JiD Jqx hvars hres Tryz.underlying4 (fun t htt => ?_) (fun _=>hfn H d0 d1 d2) hW' (ht r a b) (hpre r a b hr0 ha hb) (hfo r a b) (hin r a b) (hout r a b) (hr r a b) (by rw [hargs]; rfl) (fun k => ?_)
 ·rw [hps] at htt
  have:t=t1 ∨ t=t2 ∨ t=t3:=by simpa using htt
  rcases this with rfl | rfl | rfl
  ·exact h1.1
  ·exact h2.1
  ·exact h3.1
 ·rw [hargs]
  rcases k with _ | _ | _ | k
  ·exact r0
  ·exact r1
  ·exact r2
  ·exact .any _
end Go.Ab
namespace Go.Ab
open Go Go.RowKit Go.Proofs Go.Sh Go.En
set_option maxRecDepth 100000
theorem dSpan3:Dec Tryz.prog 42 Jb6 (fun _=>True) :=
 Dec.map (JcJ Tryz.underlying42 (sz:=2) (by kernel_rfl) (Jb7 (mid:=1) rfl rfl (by kernel_rfl) dInt (Jb7 (mid:=2) rfl rfl (by kernel_rfl) dInt Jdj))) (fun p=>(⟨p.1,p.2.1⟩:Span)) (fun _ _=>rfl) (fun _ _=>trivial)
theorem dStrip:Dec Tryz.prog 58 JaK (fun _=>True) :=
 Dec.map (JcJ Tryz.underlying58 (sz:=2) (by kernel_rfl) (Jb7 (mid:=1) rfl rfl (by kernel_rfl) dInt (Jb7 (mid:=2) rfl rfl (by kernel_rfl) dInt Jdj))) (fun p=>(⟨p.1,p.2.1⟩:Strip)) (fun _ _=>rfl) (fun _ _=>trivial)
theorem dPiece:Dec Tryz.prog 44 JaD (fun _=>True) :=
 Dec.map (JcJ Tryz.underlying44 (sz:=3) (by kernel_rfl) (Jb7 (mid:=2) rfl rfl (by kernel_rfl) dSpan3 (Jb7 (mid:=3) rfl rfl (by kernel_rfl) dInt Jdj))) (fun p=>(⟨p.1.lo,p.1.hi,p.2.1⟩:Piece)) (fun _ _=>rfl) (fun _ _=>trivial)
theorem Jqz:Dec Tryz.prog 22 (fun l:List Strip=>[.sl 2 l.length (fun i=>JaK (l.getD i default))]) (fun l=>l.length<=140737488355328 /\ ∀ m,m ∈ l->True) :=
 Jei (α:=Strip) Tryz.underlying22 (by kernel_rfl) (by decide) (Nat.lt_of_lt_of_eq (by decide:0 < 16) (by kernel_rfl)) dStrip
theorem JqA:Dec Tryz.prog 23 (fun l:List Piece=>[.sl 3 l.length (fun i=>JaD (l.getD i default))]) (fun l=>l.length<=140737488355328 /\ ∀ m,m ∈ l->True) :=
 Jei (α:=Piece) Tryz.underlying23 (by kernel_rfl) (by decide) (Nat.lt_of_lt_of_eq (by decide:0 < 24) (by kernel_rfl)) dPiece
theorem dIntss:Dec Tryz.prog 24 (fun l:List (List Int)=>[JaP l]) (fun l=>l.length<=140737488355328 /\ ∀ m,m ∈ l->m.length<=140737488355328) :=
 Jei (α:=List Int) Tryz.underlying24 (by kernel_rfl) (by decide) (Nat.lt_of_lt_of_eq (by decide:0 < 24) (by kernel_rfl)) Jqw
theorem dFrm:Dec Tryz.prog 26 cFrm Jba:=by
 refine Dec.map (JcJ Tryz.underlying26 (sz:=5) (by kernel_rfl) (Jb7 (mid:=1) rfl rfl (by kernel_rfl) dInt (Jb7 (mid:=2) rfl rfl (by kernel_rfl) dInt (Jb7 (mid:=3) rfl rfl (by kernel_rfl) Jqz (Jb7 (mid:=4) rfl rfl (by kernel_rfl) JqA (Jb7 (mid:=5) rfl rfl (by kernel_rfl) dIntss Jdj)))))) (fun p=>(⟨p.1,p.2.1,p.2.2.1,p.2.2.2.1,p.2.2.2.2.1⟩:Frm)) (fun _ _=>rfl) (fun p h => ?_)
 obtain ⟨_,_,⟨h1,_⟩,⟨h2,_⟩,⟨h3,h4⟩,_⟩:=h
 refine ⟨Nat.le_trans h1 (by decide),Nat.le_trans h2 (by decide),Nat.le_trans h3 (by decide),fun i => ?_⟩
 show (p.2.2.2.2.1.getD i []).length<=_
 by_cases hi:i < p.2.2.2.2.1.length
 ·exact Nat.le_trans (h4 _ (Jbc _ [] hi)) (by decide)
 ·rw [JbY _ _ (by omega)]; exact Nat.zero_le _
theorem argFrm:ArgD 26 Frm (fun f=>vFrm f) Jba:=JiE Tryz.underlying26 ⟨by kernel_rfl,of_decide_eq_true (by kernel_rfl)⟩ dFrm
end Go.Ab
namespace Go.Ab
open Go Go.RowKit Go.Proofs Go.Sh Go.En
set_option maxRecDepth 100000
theorem dBil:Dec Tryz.prog 29 cBil (fun x=>x.out.length<=140737488355328) :=
 Dec.map (JcJ Tryz.underlying29 (sz:=2) (by kernel_rfl) (Jb7 (mid:=1) rfl rfl (by kernel_rfl) dInt (Jb7 (mid:=2) rfl rfl (by kernel_rfl) Jqw Jdj))) (fun p=>(⟨p.1,p.2.1⟩:BilX)) (fun _ _=>rfl) (fun _ h=>h.2.1)
theorem argBil:ArgD 29 BilX (fun x=>vBil x) (fun x=>x.out.length<=140737488355328):=JiE Tryz.underlying29 ⟨by kernel_rfl,of_decide_eq_true (by kernel_rfl)⟩ dBil
end Go.Ab
namespace Go.Proofs.YtebodmfjbfiljaaGreat
open Go Go.Ab Go.Sh Go.En Go.RowKit
set_option maxRecDepth 100000
theorem own:ownKnob Tryz.prog.godebug=none:=by kernel_rfl
def nilArgs:Array Value := #[.agg #[.int .i64 0,.int .i64 0,.slice none 0 0,.slice none 0 0,.slice none 0 0],.slice none 0 0,.agg #[.int .i64 0,.slice none 0 0]]
theorem lifted (os:Os) (started:os.Started) (H:Type) (enc:TypeId × Value->H) :
  ReturnsInHanded {} Tryz.checked os 3 .any (Rows.topRefusedSpec.pre6 enc Tryz.prog Tryz.f3 Rows.topRefusedRow.domain false) (Rows.topRefusedSpec.post enc Tryz.prog Tryz.f3 false true false false):=by
 refine returnsInHanded_of_change_sized (C:=Tryz.checked) own started (by kernel_rfl) Tryz.func3
  (ChangeSpec.witness6 (enc:=enc) (C:=Tryz.checked) false ⟨#[],nilArgs,[]⟩ 8 (by kernel_rfl) (by kernel_rfl) (by kernel_rfl) (by kernel_rfl)) ?_
 intro W base args ds gs before hval hW _ hsz _
 exact Jnw argFrm Jqy argBil rfl rfl rfl (fun _ _ _ _=>rfl) s3 t3 (fun _ _ _=>rfl) (fun _ _ _ h0 h1 h2=>⟨h0,Nat.le_trans h1 (by decide),Nat.le_trans h2 (by decide)⟩) (fun _ _ _ _=>trivial) (fun _ _ _=>rfl) (fun _ _ _=>rfl) (fun _ _ _=>rfl) hval hW hsz
theorem proved:Rows.TopRefusedSaid :=
 OpenClaim.holds_of_wide 3 Tryz.f3 rfl rfl rfl rfl rfl rfl rfl ⟨rfl,rfl,rfl,rfl,rfl⟩ rfl rfl rfl rfl rfl (by kernel_rfl) Tryz.func3 (by kernel_rfl)
  (of_decide_eq_true (by kernel_rfl)) (by unfold Func.isWrapper; first | (rw [if_pos (by decide +kernel)]; kernel_rfl) | (rw [if_neg (by decide +kernel)]; exact ⟨rfl,rfl⟩))
  (fun os started H enc _=>lifted os started H enc)
end Go.Proofs.YtebodmfjbfiljaaGreat
