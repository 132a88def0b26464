import Derived.Test.YtnmpibjlnninjaaGreatDoorKT15
import Derived.RangeFuncNested
import Derived.RangeFuncCalls
import Derived.RangeFuncLeaves
import Derived.OrdersIn
import Derived.TacticsIn
namespace Go.Proofs.YtnmpibjlnninjaaGreatDoor
set_option linter.unusedVariables false
set_option linter.unusedSimpArgs false
set_option maxRecDepth 100000
set_option maxHeartbeats 90000000
section
open Go Go.RowKit
theorem iJ {d:bZ}{i:Int}{x:ByteArray}(hd:d.Down=false)(hf:d.Fuse = -1)(h0:0<=i)(h1:i<(d.Now.length:Int))(h2:x.size<=48) :
 aP d i x=(⟨d.Kept,d.Now.set i.toNat (full x),d.Wait++[⟨i,full x⟩],-1,false⟩,0):=by
 grind [gR,oO]
def ju (p n:Int):List Change->List Turn
  | []=>[]
  | c::l=>⟨p,full (dN 111 n (jZ c).1)⟩::ju (p+1) (n+1) l
theorem sy:∀ (l:List Change) (p n:Int),(ju p n l).length=l.length
 | [],_,_=>rfl
 | c::l,p,n=>by simp [ju,sy l]
theorem AY (lg:Lg):∀ (c:List Change) (d:bZ) (i q:Nat),d.Down=false->d.Fuse = -1->lg.From+lg.Next+(i:Int)=(q:Int)->q+c.length<=d.Now.length->(∀x∈c,gu x=0) ->
 ku lg d c i=(⟨d.Kept,d.Now.take q++eH (lg.First+lg.Next+(i:Int)) c++d.Now.drop (q+c.length),d.Wait++ju (q:Int) (lg.First+lg.Next+(i:Int)) c,-1,false⟩,0)
 | [],d,i,q,hd,hf,hq,hl,hc=>by
  unfold ku;obtain ⟨a,b,e,f,g⟩:=d;simp_all [eH,ju]
 | x::r,d,i,q,hd,hf,hq,hl,hc=>by
  have hx:=Cg (hc x (List.mem_cons_self ..))
  rw [List.length_cons] at hl
  have hw:=iJ (d:=d) (i:=lg.From+lg.Next+(i:Int)) (x:=dN 111 (lg.First+lg.Next+(i:Int)) (jZ x).1) hd hf ae ae (by grind [nP])
  have SF:(lg.From+lg.Next+(i:Int)).toNat=q:=ae
  rw [SF,hq] at hw
  unfold ku
  rw [hq,hw,if_pos rfl,AY lg r _ (i+1) (q+1) rfl rfl ae au (fun y hy=>hc y (List.mem_cons_of_mem _ hy))]
  have e1:(d.Now.set q (full (dN 111 (lg.First+lg.Next+(i:Int)) (jZ x).1))).take (q+1)=d.Now.take q++[full (dN 111 (lg.First+lg.Next+(i:Int)) (jZ x).1)]:=by
   rw [List.take_add_one,List.take_set_of_le (Nat.le_refl _),List.getElem?_set_self ae];rfl
  have e2:(d.Now.set q (full (dN 111 (lg.First+lg.Next+(i:Int)) (jZ x).1))).drop (q+1+r.length)=d.Now.drop (q+(r.length+1)):=by
   grind [List.drop_set_of_lt]
  grind [eH,ju,List.length_cons,List.append_assoc,List.singleton_append]
def iX (n:Int)(c:List Change):List ByteArray:=eH n c++[full (dN 99 (n+(c.length:Int)) (bW (c.length:Int)))]
theorem uT (n:Int)(c:List Change):(iX n c).length=c.length+1:=by simp [iX,gw]
structure SG (n m:Nat)(lg:Lg)(d:bZ):Prop where
  ok:fx n m d
  f0:0<=lg.From
  m0:0<=lg.Many
  fm:lg.From+lg.Many<=(n:Int)
  x0:0<=lg.Next
section
variable {n m:Nat} {lg:Lg} {d:bZ} {c:List Change}
theorem lS (h:lf lg c=0):c.length<=62/\(c.length:Int)+1<=lg.Many-lg.Next /\ ∀x∈c,gu x=0:=by
 grind [lf,qR]
theorem JG (h:SG n m lg d)(hd:d.Down=false)(hf:d.Fuse = -1)(ha:lf lg c=0) :
 ∃ (A B:List ByteArray) (b0:ByteArray) (T:List Turn),A=d.Now.take (lg.From+lg.Next).toNat/\d.Now.drop ((lg.From+lg.Next).toNat+c.length)=b0::B /\
  T=ju (lg.From+lg.Next) (lg.First+lg.Next) c++(if lg.Next+(c.length:Int)+1<lg.Many then [⟨lg.From+(lg.Next+(c.length:Int)+1),full ⟨#[]⟩⟩] else []) /\
  dG lg d c=(⟨d.Kept,A++eH (lg.First+lg.Next) c++b0::(if lg.Next+(c.length:Int)+1<lg.Many then B.set 0 (full ⟨#[]⟩) else B),d.Wait++T,-1,false⟩,0):=by
 obtain ⟨a1,a2,a3⟩:=lS ha
 have h1:=h.f0;have h2:=h.m0;have h3:=h.fm;have h4:=h.x0;have h5:=h.ok.nl
 obtain ⟨q,hq⟩:∃q:Nat,lg.From+lg.Next=(q:Int):=⟨(lg.From+lg.Next).toNat,ae⟩
 have SF:(lg.From+lg.Next).toNat=q:=ae
 have hl:=AY lg c d 0 q hd hf ae ae a3
 rw [show lg.First+lg.Next+((0:Nat):Int)=lg.First+lg.Next by omega] at hl
 have hdl:(d.Now.drop (q+c.length)).length=d.Now.length-(q+c.length):=List.length_drop
 obtain ⟨b0,B,hB⟩:∃b0 B,d.Now.drop (q+c.length)=b0::B:=by
  cases hh:d.Now.drop (q+c.length) with
  | nil=>grind
  | cons b0 B=>grind
 refine ⟨_,B,b0,_,rfl,au,rfl,?_⟩
 rw [SF]
 have hA:(d.Now.take q++eH (lg.First+lg.Next) c).length=q+c.length:=by grind [List.length_append,List.length_take,gw]
 rw [hB] at hl
 unfold dG
 rw [hl,if_pos rfl,hq]
 by_cases hr:lg.Next+(c.length:Int)+1<lg.Many
 .
  rw [if_pos hr,if_pos hr,if_pos hr]
  have hn:(d.Now.take q++eH (lg.First+lg.Next) c++b0::B).length=d.Now.length:=by
   grind
  rw [iJ rfl rfl ae au aD]
  dsimp only
  have e:(lg.From+(lg.Next+(c.length:Int)+1)).toNat=q+c.length+1:=ae
  rw [e,List.set_append_right _ _ ae,hA,show q+c.length+1-(q+c.length)=0+1 by omega,List.set_cons_succ]
  grind
 grind
theorem AZ (h:SG n m lg d)(hd:d.Down=false)(hf:d.Fuse = -1)(ha:lf lg c=0) :
 ∃ (r:List ByteArray) (e:bZ),cw lg d c=(⟨lg.From,lg.Many,lg.First,lg.Next+(c.length:Int)+1⟩,e,0)/\e.Down=false/\e.Fuse = -1/\e.Kept=e.Now/\e.Wait=[] /\
  e.Now=d.Now.take (lg.From+lg.Next).toNat++iX (lg.First+lg.Next) c++r/\(lg.Next+(c.length:Int)+1<lg.Many -> ∃r',r=full ⟨#[]⟩::r')/\(∀s∈r,s=full ⟨#[]⟩∨s∈d.Now.drop (lg.From+lg.Next).toNat):=by
 obtain ⟨a1,a2,a3⟩:=lS ha
 have h1:=h.f0;have h2:=h.m0;have h3:=h.fm;have h4:=h.x0;have h5:=h.ok.nl
 obtain ⟨A,B,b0,T,hA,hB,hT,hL⟩:=JG h hd hf ha
 have ZQ:A.length=(lg.From+lg.Next).toNat:=au
 have hdl:(b0::B).length=d.Now.length-((lg.From+lg.Next).toNat+c.length):=au
 rw [List.length_cons] at hdl
 generalize hC:(if lg.Next+(c.length:Int)+1<lg.Many then B.set 0 (full ⟨#[]⟩) else B)=C at hL
 have X6:C.length=B.length:=au
 have Wg:(A++eH (lg.First+lg.Next) c).length=(lg.From+lg.Next).toNat+c.length:=by grind [List.length_append,gw]
 have hb:sr lg d c=(⟨A++eH (lg.First+lg.Next) c++b0::C,A++eH (lg.First+lg.Next) c++b0::C,[],-1,false⟩,0):=by
  unfold sr;grind [kV]
 have hc:tN lg d c=(⟨A++eH (lg.First+lg.Next) c++b0::C,A++iX (lg.First+lg.Next) c++C,[⟨lg.From+(lg.Next+(c.length:Int)),full (dN 99 (lg.First+(lg.Next+(c.length:Int))) (bW (c.length:Int)))⟩],-1,false⟩,0):=by
  unfold tN
  rw [hb,iJ rfl rfl ae au (by grind [nP,jm])]
  dsimp only
  have e:(lg.From+(lg.Next+(c.length:Int))).toNat=(lg.From+lg.Next).toNat+c.length:=ae
  rw [e,List.set_append_right _ _ ae,Wg,Nat.sub_self,List.set_cons_zero]
  grind [iX,List.append_assoc,List.singleton_append]
 have hD:vW lg d c=(⟨A++iX (lg.First+lg.Next) c++C,A++iX (lg.First+lg.Next) c++C,[],-1,false⟩,0):=by
  unfold vW;grind [kV]
 refine ⟨C,_,Gj ha (by rw [hL]) (by rw [hb]) (by rw [hc]) (by rw [hD]),by rw [hD],by rw [hD],by rw [hD],by rw [hD],au,fun hr=>?_,fun s hs=>?_⟩
 .
  rw [if_pos hr] at hC
  cases B with
  | nil=>grind
  | cons b1 B=>grind
 have hsB:∀s∈B,s∈d.Now.drop (lg.From+lg.Next).toNat:=fun s hs=>by
  have:s∈d.Now.drop ((lg.From+lg.Next).toNat+c.length):=au
  rw [<- List.drop_drop] at this
  grind
 grind
theorem oa {d:bZ}{f k:Nat}(hd:d.Down=false)(hl:f+k<=d.Now.length):qj d (f:Int) k=(d.Now.drop f).take k:=by
 refine List.ext_getElem? fun j=>?_
 by_cases hj:j<k
 .
  rw [qQ hj,List.getElem?_take_of_lt hj,List.getElem?_drop]
  obtain ⟨x,hx⟩:∃x,d.Now[f+j]? = some x:=⟨_,List.getElem?_eq_getElem ae⟩
  rw [show (f:Int)+(j:Int)=((f+j:Nat):Int) by omega,yc hd hx,hx]
 grind [List.getElem?_eq_none,qk,List.length_take]
theorem MJ {W:List (List Change)}{u:Nat}(h:SG n m lg d)(hd:d.Down=false)(hf:d.Fuse = -1)(ha:lf lg c=0)(hx:lg.Next=(u:Int))(hs:scan (qj d lg.From lg.Many.toNat) lg.First=(W,u)) :
 scan (qj (cw lg d c).2.1 lg.From lg.Many.toNat) lg.First=(W++[c],u+c.length+1):=by
 obtain ⟨a1,a2,a3⟩:=lS ha
 have h1:=h.f0;have h2:=h.m0;have h3:=h.fm;have h5:=h.ok.nl
 obtain ⟨r,e,he,e1,e2,e3,e4,e5,e6,e7⟩:=AZ h hd hf ha
 obtain ⟨f,hF⟩:∃f:Nat,lg.From=(f:Int):=⟨lg.From.toNat,ae⟩
 obtain ⟨k,hK⟩:∃k:Nat,lg.Many=(k:Int):=⟨lg.Many.toNat,ae⟩
 have hq:(lg.From+lg.Next).toNat=f+u:=ae
 rw [hq] at e5
 have hkt:lg.Many.toNat=k:=ae
 have htl:(d.Now.take (f+u)).length=f+u:=au
 have hok:=wH (lg:=lg) (c:=c) h.ok
 rw [he] at hok
 have hel:e.Now.length=n:=hok.nl
 have hrl:f+u+(c.length+1)+r.length=n:=by
  grind [List.length_append,uT]
 rw [he]
 dsimp only
 rw [hkt,hF] at hs ⊢
 rw [oa hd ae] at hs
 rw [oa e1 ae]
 have hd1:e.Now.drop f=(d.Now.drop f).take u++(iX (lg.First+lg.Next) c++r):=by
  grind [List.append_assoc,List.drop_take]
 have W7:((d.Now.drop f).take u).length=u:=au
 have MK:(e.Now.drop f).take k=(d.Now.drop f).take u++(iX (lg.First+lg.Next) c++r.take (k-u-(c.length+1))):=by
  rw [hd1,List.take_append,W7,List.take_of_length_le (l:=(d.Now.drop f).take u) ae,List.take_append,uT,List.take_of_length_le (l:=iX (lg.First+lg.Next) c) au]
 have hcut:=ye (l:=(d.Now.drop f).take k) (l':=(e.Now.drop f).take k) (first:=lg.First) (by
  grind)
 rw [hcut,hs,MK]
 dsimp only
 rw [List.drop_append_of_le_length ae,List.drop_of_length_le ae,List.nil_append,hx]
 unfold iX
 rw [List.append_assoc,List.singleton_append]
 refine Ia a3 ?_
 by_cases hb:lg.Next+(c.length:Int)+1<lg.Many
 .
  obtain ⟨r',hr'⟩:=e6 hb
  right
  obtain ⟨j,hj⟩:∃j,k-u-(c.length+1)=j+1:=⟨k-u-(c.length+1)-1,ae⟩
  grind [oP]
 grind
theorem JH (ha:¬ lf lg c=0):cw lg d c=(lg,d,lf lg c):=by simp_all [cw,if_pos]
theorem JI {l:List ByteArray}{first:Int}{W:List (List Change)}{u:Nat}(h:scan l first=(W,u)):u<=l.length:=by
 grind [H8]
theorem OQ {fI many first:Int}{u:Nat}{W:List (List Change)}(hO:fx n m d)(hd:d.Down=false)(hf:d.Fuse = -1)(hg:lg=⟨fI,many,first,(u:Int)⟩)(b1:0<=fI)(b2:1<=many)(b3:fI+many<=(n:Int))(hs:scan (qj d fI many.toNat) first=(W,u)) :
 (cw lg d c).2.2=lf lg c/\(cw lg d c).2.1.Down=false/\(cw lg d c).2.1.Fuse = -1 /\
 (lf lg c=0->(cw lg d c).1=⟨fI,many,first,((u+c.length+1:Nat):Int)⟩/\scan (qj (cw lg d c).2.1 fI many.toNat) first=(W++[c],u+c.length+1)/\u+c.length+1<=many.toNat) /\
 (¬ lf lg c=0->(cw lg d c).1=lg/\(cw lg d c).2.1=d):=by
 have hL:SG n m lg d:=by rw [hg];exact ⟨hO,b1,au,b3,au⟩
 have e1:lg.From=fI:=by rw [hg]
 have e2:lg.Many=many:=by rw [hg]
 have e3:lg.First=first:=by rw [hg]
 have e4:lg.Next=(u:Int):=by rw [hg]
 by_cases ha:lf lg c=0
 .
  obtain ⟨a1,a2,a3⟩:=lS ha
  grind [MJ,AZ]
 grind [JH]
theorem yR:∀ (l:List ByteArray) (n:Int) (out:List (List Change)) (deed:List Change) (used pos:Nat),(gS l n out deed used pos).1.length<=out.length+l.length
 | [],n,out,deed,used,pos=>by unfold gS;simp
 | s::r,n,out,deed,used,pos=>by
  unfold gS
  split
  .
   have:=yR r (n+1) (out++[deed]) [] (pos+1) (pos+1)
   simp only [List.length_append,List.length_cons,List.length_nil] at this ⊢;omega
  split
  .
   have:=yR r (n+1) out (deed++[(sh (ry s)).1]) used (pos+1)
   rw [List.length_cons];omega
  dsimp only;omega
end
end
section
open Go Go.RowKit
section
variable {n m:Nat} {lg:Lg} {d:bZ} {c:List Change}
theorem uU {a:bZ}:¬ ((a,(10:Int)):bZ×Int).2=0:=ae
theorem A8 (hd:d.Down=false)(hf : -1<=d.Fuse):(∃g,-1<=g/\bE d=(⟨d.Kept,d.Now,d.Wait,g,false⟩,0))∨bE d=(⟨d.Kept,d.Now,d.Wait,-1,true⟩,10):=by
 grind [sq,tK]
theorem oX {i:Int}{x:ByteArray}(hd:d.Down=false)(hf : -1<=d.Fuse)(h0:0<=i)(h1:i<(d.Now.length:Int))(h2:x.size<=48) :
 (∃g,-1<=g/\aP d i x=(⟨d.Kept,d.Now.set i.toNat (full x),d.Wait++[⟨i,full x⟩],g,false⟩,0))∨aP d i x=(⟨d.Kept,d.Now,d.Wait,-1,true⟩,10):=by
 rcases A8 hd hf with ⟨g,hg,h⟩ | h
 .grind [gR]
 right;rw [yb h0 h1 h2 au,h]
theorem sA (hd:d.Down=false)(hf : -1<=d.Fuse):(∃g,-1<=g/\aN d=(⟨d.Now,d.Now,[],g,false⟩,0))∨aN d=(⟨d.Kept,d.Now,d.Wait,-1,true⟩,10):=by
 unfold aN
 rcases A8 hd hf with ⟨g,hg,h⟩ | h
 .grind
 grind
theorem EX (lg:Lg):∀ (c:List Change) (d:bZ) (i q:Nat),d.Down=false -> -1<=d.Fuse->lg.From+lg.Next+(i:Int)=(q:Int)->q+c.length<=d.Now.length->(∀x∈c,gu x=0) ->
 (∃g,-1<=g/\ku lg d c i=(⟨d.Kept,d.Now.take q++eH (lg.First+lg.Next+(i:Int)) c++d.Now.drop (q+c.length),d.Wait++ju (q:Int) (lg.First+lg.Next+(i:Int)) c,g,false⟩,0)) ∨
 (∃e,ku lg d c i=(e,10)/\e.Down=true/\e.Kept=d.Kept /\ ∃j,e.Wait=d.Wait++(ju (q:Int) (lg.First+lg.Next+(i:Int)) c).take j)
 | [],d,i,q,hd,hf,hq,hl,hc=>by
  left;refine ⟨d.Fuse,hf,?_⟩
  unfold ku;obtain ⟨a,b,e,f,g⟩:=d;simp_all [eH,ju]
 | x::r,d,i,q,hd,hf,hq,hl,hc=>by
  have hx:=Cg (hc x (List.mem_cons_self ..))
  rw [List.length_cons] at hl
  have hw:=oX (d:=d) (i:=lg.From+lg.Next+(i:Int)) (x:=dN 111 (lg.First+lg.Next+(i:Int)) (jZ x).1) hd hf ae ae (by grind [nP])
  have SF:(lg.From+lg.Next+(i:Int)).toNat=q:=ae
  rw [SF,hq] at hw
  unfold ku
  rw [hq]
  rcases hw with ⟨g,hg,hw⟩ | hw
  .
   rw [hw,if_pos rfl]
   have e3:lg.First+lg.Next+((i+1:Nat):Int)=lg.First+lg.Next+(i:Int)+1:=ae
   have e4:((q+1:Nat):Int)=(q:Int)+1:=ae
   rcases EX lg r ⟨d.Kept,d.Now.set q (full (dN 111 (lg.First+lg.Next+(i:Int)) (jZ x).1)),d.Wait++[⟨(q:Int),full (dN 111 (lg.First+lg.Next+(i:Int)) (jZ x).1)⟩],g,false⟩ (i+1) (q+1) rfl hg ae au (fun y hy=>hc y (List.mem_cons_of_mem _ hy)) with ⟨g',hg',h⟩ | ⟨e,he,h1,h2,j,h3⟩
   .
    left;refine ⟨g',hg',?_⟩
    rw [h]
    have e1:(d.Now.set q (full (dN 111 (lg.First+lg.Next+(i:Int)) (jZ x).1))).take (q+1)=d.Now.take q++[full (dN 111 (lg.First+lg.Next+(i:Int)) (jZ x).1)]:=by
     rw [List.take_add_one,List.take_set_of_le (Nat.le_refl _),List.getElem?_set_self ae];rfl
    have e2:(d.Now.set q (full (dN 111 (lg.First+lg.Next+(i:Int)) (jZ x).1))).drop (q+1+r.length)=d.Now.drop (q+(r.length+1)):=by
     grind [List.drop_set_of_lt]
    grind [eH,ju,List.length_cons,List.append_assoc,List.singleton_append]
   right;refine ⟨e,he,h1,h2,j+1,?_⟩
   grind [ju,List.append_assoc,List.singleton_append]
  simp_all
def sB (lg:Lg)(c:List Change):List Turn:=ju (lg.From+lg.Next) (lg.First+lg.Next) c++(if lg.Next+(c.length:Int)+1<lg.Many then [⟨lg.From+(lg.Next+(c.length:Int)+1),full ⟨#[]⟩⟩] else [])
theorem ML (h:SG n m lg d)(hd:d.Down=false)(hf : -1<=d.Fuse)(ha:lf lg c=0) :
 ∃ (B:List ByteArray) (b0:ByteArray),d.Now.drop ((lg.From+lg.Next).toNat+c.length)=b0::B /\
  ((∃g,-1<=g/\dG lg d c=(⟨d.Kept,d.Now.take (lg.From+lg.Next).toNat++eH (lg.First+lg.Next) c++b0::(if lg.Next+(c.length:Int)+1<lg.Many then B.set 0 (full ⟨#[]⟩) else B),d.Wait++sB lg c,g,false⟩,0)) ∨
   (∃e,dG lg d c=(e,10)/\e.Down=true/\e.Kept=d.Kept /\ ∃j,e.Wait=d.Wait++(sB lg c).take j)):=by
 obtain ⟨a1,a2,a3⟩:=lS ha
 have h1:=h.f0;have h2:=h.m0;have h3:=h.fm;have h4:=h.x0;have h5:=h.ok.nl
 obtain ⟨q,hq⟩:∃q:Nat,lg.From+lg.Next=(q:Int):=⟨(lg.From+lg.Next).toNat,ae⟩
 have hle:q+c.length<=d.Now.length:=ae
 have SF:(lg.From+lg.Next).toNat=q:=ae
 have hl:=EX lg c d 0 q hd hf ae ae a3
 rw [show lg.First+lg.Next+((0:Nat):Int)=lg.First+lg.Next by omega] at hl
 have hdl:(d.Now.drop (q+c.length)).length=d.Now.length-(q+c.length):=List.length_drop
 obtain ⟨b0,B,hB⟩:∃b0 B,d.Now.drop (q+c.length)=b0::B:=by
  cases hh:d.Now.drop (q+c.length) with
  | nil=>grind
  | cons b0 B=>grind
 refine ⟨B,b0,au,?_⟩
 rw [SF]
 have hA:(d.Now.take q++eH (lg.First+lg.Next) c).length=q+c.length:=by grind [List.length_append,List.length_take,gw]
 rw [hB] at hl
 have hn:(d.Now.take q++eH (lg.First+lg.Next) c++b0::B).length=d.Now.length:=by
  grind
 unfold dG sB
 rw [hq]
 rcases hl with ⟨g,hg,hl⟩ | ⟨e,he,e1,e2,j,e3⟩
 .
  rw [hl,if_pos rfl]
  by_cases hr:lg.Next+(c.length:Int)+1<lg.Many
  .
   rw [if_pos hr,if_pos hr,if_pos hr]
   rcases oX (d:=⟨d.Kept,d.Now.take q++eH (lg.First+lg.Next) c++b0::B,d.Wait++ju (q:Int) (lg.First+lg.Next) c,g,false⟩) (i:=lg.From+(lg.Next+(c.length:Int)+1)) (x:=⟨#[]⟩) rfl hg ae au aD with ⟨g',hg',hw⟩ | hw
   .
    left;refine ⟨g',hg',?_⟩
    rw [hw]
    dsimp only
    have e:(lg.From+(lg.Next+(c.length:Int)+1)).toNat=q+c.length+1:=by
     omega
    rw [e,List.set_append_right _ _ ae,hA,show q+c.length+1-(q+c.length)=0+1 by omega,List.set_cons_succ]
    grind
   right
   rw [hw]
   exact ⟨_,rfl,rfl,rfl,c.length,by grind [sy,List.take_of_length_le]⟩
  grind
 right
 rw [he,if_neg uU]
 refine ⟨e,rfl,e1,e2,min j c.length,?_⟩
 grind [sy,Nat.min_le_right,Nat.min_eq_left,Nat.min_eq_right,List.take_of_length_le]
structure TL (n:Nat)(lg:Lg)(d:bZ)(W:List (List Change))(u:Nat):Prop where
  ok:SG n 0 lg d
  down:d.Down=false
  fuse : -1<=d.Fuse
  kn:d.Kept=d.Now
  wait:d.Wait=[]
  nx:lg.Next=(u:Int)
  sc:scan ((d.Now.drop lg.From.toNat).take lg.Many.toNat) lg.First=(W,u)
  tail:∀s∈d.Now.drop (lg.From.toNat+u),¬ bq s 0=99
theorem OT (d:bZ)(f:Int)(k:Nat)(first:Int):eZ d f k first<=k:=by
 have:=H8 (qj d f k) first
 rw [qk] at this;exact this
theorem OU {d:bZ}{f:Int}{k:Nat}{first:Int}:(kZ d f k first).length<=k:=by
 grind [qj,kZ,scan,yR,qk]
theorem OV {l:List jO}{d:bZ}{f:Int}{k:Nat}{first:Int}(h:l.map jO.L=kZ d f k first):l.length<=k:=by
 grind [OU,List.length_map]
end
end
section
open Go Go.RowKit
attribute [local irreducible] Run Rg Rq Qt Qa Stp Dg Do Dm bN
theorem JJ (cr:Nat)(aI:Value)(MN:Nat)(MO:Nat)(st:gZ)(w:World)(Vw:(ah.box cr [pV MN,iV st.Epoch,iV st.Side,iV st.Size,iV st.First,pV MO,aI] 132).ok w)(GD:Sl w aI (st.Rows:List Change))(hl:st.Rows.length<=100000):Calls Tryz.prog 31 #[pV cr] w fun e w' => ∃u,e = .returned u/\Own w.heap.size 115 w' u st.Rows/\Ext w w':=by
 refine R.enter [] [(0,pV cr)] Tryz.func31 O O O O<|R.pQ GD<|R.nH (r:=ah.box cr [pV MN,iV st.Epoch,iV st.Side,iV st.Size,iV st.First,pV MO,aI] 132) Vw (jf Vw)<|U ?_
 refine R.q (q.zu 0 O O Im O) O<|R.s O (s.aJ [] [1] _ _ _ O O O Qz O O (fun w own hw H=>pC aI st.Rows w own H ae) O) fun z1=>U ?_
 exact R.ro 0 O Tryz.results31 O O eF
def lA (d:bZ):Nat->zB
  | 0=>⟨0,0,0,0⟩
  | k+1=>nZ (lA d k) (cY (cC d (k:Int)).1)
theorem EY (d:bZ):∀k,0<=(lA d k).Epoch/\(lA d k).Epoch<4294967296/\0<=(lA d k).Side/\(lA d k).Side<=1/\0<=(lA d k).Size/\(lA d k).Size<=2400/\0<=(lA d k).First/\(lA d k).First<4294967296/\(¬ (lA d k).Epoch=0->1<=(lA d k).First)
 | 0=>by simp [lA]
 | k+1=>by
  unfold lA nZ;split
  .exact yJ _
  exact EY d k
theorem Vx {d:bZ}(h:jE d=0):¬ d.Now.length<166/\¬ (headD d).Epoch=0/\(eP (rO d)).2=true:=by
 unfold jE at h
 split at h
 .cases h
 split at h
 .cases h
 split at h
 .exact ⟨af,af,af⟩
 cases h
theorem EZ:∀ (k:Nat) (t:ByteArray) (l:List Change),(pF k t l).1.length<=l.length+t.size
 | 0,t,l=>by rw [pF];show l.length<=_;omega
 | k+1,t,l=>by
  rw [pF]
  split
  .dsimp only;omega
  split
  .simp
  rename_i h1 h2
  split
  .
   have:=EZ k (t.extract (qq t) t.size) (bI l [yK t])
   have ha:=ko [yK t] l
   rw [List.length_singleton] at ha
   rw [ByteArray.size_extract] at this
   have:3<=qq t:=by unfold qq;omega
   omega
  simp
theorem GF (t:ByteArray):(eP t).1.length<=t.size:=by
 have:=EZ (t.size+1) t []
 simpa [eP] using this
theorem yS {M:Nat}:∀ (l:List ByteArray) (n:Int) (out:List (List Change)) (deed:List Change) (used pos:Nat),(∀c∈out,c.length<=M)->deed.length+l.length<=M -> ∀c∈(gS l n out deed used pos).1,c.length<=M
 | [],n,out,deed,used,pos,h,hd=>h
 | s::r,n,out,deed,used,pos,h,hd=>by
  rw [List.length_cons] at hd
  rw [gS]
  split
  .
   refine yS r _ _ _ _ _ (fun c hc=>?_) aE
   rcases List.mem_append.1 hc with hc|hc
   .exact h c hc
   rw [List.mem_singleton.1 hc];omega
  split
  .exact yS r _ _ _ _ _ h aE
  exact h
theorem GG {d:bZ}{f:Int}{k:Nat}{first:Int}:∀c∈kZ d f k first,c.length<=k:=by
 unfold kZ scan
 exact yS _ _ _ _ _ _ bC (by rw [qk];simp)
theorem yU {M:Nat}:∀ (W:List (List Change)) (rows:List Change),(∀c∈W,c.length<=M)->(jU rows W).length<=rows.length+M*W.length
 | [],rows,h=>by simp [jU]
 | c::W,rows,h=>by
  have h1:=yU W (bI rows c) (fun x hx=>h x (List.mem_cons_of_mem _ hx))
  have h2:=ko c rows
  have h3:=h c (List.mem_cons_self ..)
  show (jU (bI rows c) W).length<=_
  rw [List.length_cons,Nat.mul_add,Nat.mul_one]
  omega
attribute [local irreducible] eZ kZ eP
theorem A9 (aF:Nat)(ay aC az:Value)(dk:bZ)(w:World)(own:List Nat)(H:HN w own [ah.box aF [ay,aC,az,iV dk.Fuse,.bool dk.Down] 120,ah.row 9 ay dk.Kept,ah.row 9 aC dk.Now,ah.row 196 az dk.Wait] [])(hd:dk.Down=false)(ho:jE dk=0)(hD:fx dk.Now.length 90000 dk/\dk.Now.length<=200):RC Tryz.prog 29 #[pV aF] H (fun z:Value×Value×Value×Nat×Value×Nat => .tuple #[pV z.2.2.2.1,.nilIface]) (fun z=>[ah.box aF [z.1,z.2.1,z.2.2.1,iV dk.Fuse,.bool dk.Down] 120,ah.row 9 z.1 dk.Kept,ah.row 9 z.2.1 dk.Now,ah.row 196 z.2.2.1 dk.Wait,ah.box z.2.2.2.1 [pV aF,iV (bg dk).c.Epoch,iV (bg dk).c.Side,iV (bg dk).c.Size,iV (bg dk).c.First,pV z.2.2.2.2.2,z.2.2.2.2.1] 132,ah.box z.2.2.2.2.2 [pV aF,iV (bg dk).L.From,iV (bg dk).L.Many,iV (bg dk).L.First,iV (bg dk).L.Next] 193]) (fun z=>[ah.ls z.2.2.2.2.1 (bg dk).c.Rows]):=by
 have eo:=H.cap 1 rfl;have eu:=H.cz 1 rfl
 have e8:=H.cap 2 rfl;have e9:=H.cz 2 rfl
 have ew:=H.cap 3 rfl;have ey:=H.cz 3 rfl
 obtain ⟨o1,o2,o3⟩:=Vx ho
 refine R.eN H ?_
 refine R.kc O O (fun w hw=>cv (congrArg Value.bool hd) (AP aF ay aC az dk w (hw.b 0 O) (hw.row 1 O) (hw.row 2 O) (hw.row 3 O)))<|U ?_
 refine R.kc O O (fun w hw=>fN aF ay aC az dk w (hw.b 0 O) (hw.row 1 O) (hw.row 2 O) (hw.row 3 O))<|U ?_
 refine R.nb fun b1=>?_
 refine R.loop (fun g_:Nat×zB=>[(0,pV aF),(4,pV b1),(30,iV (g_.1:Int))]) (fun g_=>[ah.box b1 [pV aF,iV g_.2.Epoch,iV g_.2.Side,iV g_.2.Size,iV g_.2.First,.pointer none,nS] 132,ah.box aF [ay,aC,az,iV dk.Fuse,.bool dk.Down] 120,ah.row 9 ay dk.Kept,ah.row 9 aC dk.Now,ah.row 196 az dk.Wait,ah.held w own]) (fun g_=>[]) (fun g_=>g_.1<=2/\g_.2=lA dk g_.1) (fun g_=>2-g_.1) (0,(⟨0,0,0,0⟩:zB)) O (by exact ⟨ae,rfl⟩) ⟨rfl,rfl,rfl,trivial⟩ (fun _=>Wd.pick mH [] O O O) ?_
 rintro ⟨i,hh⟩ ⟨hi,HK⟩
 dsimp only at *
 have hin:=EY dk i;rw [<- HK] at hin
 refine U ?_
 refine C (i<2) ?_ ?_ <;> intro h1
 .
  have hrd:=yj hD.1 hd (i:=(i:Int)) ae ae;obtain ⟨hrd,hsz⟩:=hrd;have hin2:=yJ (cC dk (i:Int)).1
  refine U ?_
  refine R.kc O O (fun w hw=>uN aF ay aC az dk (i:Int) w (hw.b 1 O) (hw.row 2 O) (hw.row 3 O) (hw.row 4 O))<|U ?_
  refine R.s (B':=(fun _u:Unit=>[ah.box b1 [pV aF,iV hh.Epoch,iV hh.Side,iV hh.Size,iV hh.First,.pointer none,nS] 132,ah.box aF [ay,aC,az,iV dk.Fuse,.bool dk.Down] 120,ah.row 9 ay dk.Kept,ah.row 9 aC dk.Now,ah.row 196 az dk.Wait,ah.held w own])) (F':=(fun _u:Unit=>[])) O (s.aJ (B0:=[]) (Br:=[ah.box b1 [pV aF,iV hh.Epoch,iV hh.Side,iV hh.Size,iV hh.First,.pointer none,nS] 132,ah.box aF [ay,aC,az,iV dk.Fuse,.bool dk.Down] 120,ah.row 9 ay dk.Kept,ah.row 9 aC dk.Now,ah.row 196 az dk.Wait,ah.held w own]) (F0:=[]) mH [] (fun _u:Unit => .agg #[iV (cY (cC dk (i:Int)).1).Epoch,iV (cY (cC dk (i:Int)).1).Side,iV (cY (cC dk (i:Int)).1).Size,iV (cY (cC dk (i:Int)).1).First]) (fun _u:Unit=>[]) (fun _u:Unit=>[]) O O O U4 O O (fun w own hw H=>GA (cC dk (i:Int)).1 w own H ae) O) fun _=>?_
  refine R.nb fun b2=>?_
  refine C (hh.Epoch<(cY (cC dk (i:Int)).1).Epoch) ?_ ?_ <;> intro h2
  .
   refine R.cG O mixed ao<|U ?_
   refine R.back (i+1,cY (cC dk (i:Int)).1) O (by exact ⟨ae,by show _=nZ (lA dk i) (cY (cC dk (i:Int)).1);rw [<- HK];unfold nZ;rw [if_pos af]⟩) aG ⟨rfl,rfl,rfl,trivial⟩ (Tf Dc [] O O O)
  refine R.cG O mixed ao<|U ?_
  refine R.back (i+1,hh) O (by exact ⟨ae,by show _=nZ (lA dk i) (cY (cC dk (i:Int)).1);rw [<- HK];unfold nZ;rw [if_neg af]⟩) aG ⟨rfl,rfl,rfl,trivial⟩ (Tf Dc [] O O O)
 have W8:hh=headD dk:=by rw [HK,show i=2 by omega];rfl
 have ZR:¬ hh.Epoch=0:=by rw [W8];exact o2
 refine U ?_
 refine R.loop (fun g_:Nat×ByteArray=>[(0,pV aF),(4,pV b1),(9,.string g_.2),(64,iV (g_.1:Int))]) (fun g_=>[ah.box b1 [pV aF,iV hh.Epoch,iV hh.Side,iV hh.Size,iV hh.First,.pointer none,nS] 132,ah.box aF [ay,aC,az,iV dk.Fuse,.bool dk.Down] 120,ah.row 9 ay dk.Kept,ah.row 9 aC dk.Now,ah.row 196 az dk.Wait,ah.held w own]) (fun g_=>[]) (fun g_=>g_.1<=50/\g_.2=bU dk (2+hh.Side*50) g_.1/\g_.2.size=48*g_.1) (fun g_=>50-g_.1) (0,(⟨#[]⟩:ByteArray)) O (by exact ⟨ae,rfl,rfl⟩) ⟨rfl,rfl,rfl,rfl,trivial⟩ (fun _=>Wd.pick mH [] O O O) ?_
 rintro ⟨j,tx⟩ ⟨hj,HT,hts⟩
 dsimp only at *
 refine U ?_
 refine C (j<50) ?_ ?_ <;> intro h3
 .
  have hrd:=yj hD.1 hd (i:=2+hh.Side*50+(j:Int)) ae ae;obtain ⟨hrd,hsz⟩:=hrd
  refine U ?_
  refine R.q (q.mul (r:=hh.Side*50) O O (wr ae)) O<|U ?_
  refine R.kc O O (fun w hw=>uN aF ay aC az dk ((2+(hh.Side*50))+(j:Int)) w (hw.b 1 O) (hw.row 2 O) (hw.row 3 O) (hw.row 4 O))<|U ?_
  refine R.q (q.cat O O ae) O<|U ?_
  refine R.back (j+1,(tx++(cC dk ((2+(hh.Side*50))+(j:Int))).1)) O (by exact ⟨ae,by show _=bU dk (2+hh.Side*50) j++_;rw [<- HT],by rw [ByteArray.size_append];omega⟩) aG ⟨rfl,rfl,rfl,rfl,trivial⟩ (Tf mH [] O O O)
 have hth:tx.extract 0 hh.Size.toNat=rO dk:=by rw [HT,W8,show j=50 by omega];rfl
 have hpb:(eP (tx.extract 0 hh.Size.toNat)).2=true:=by rw [hth];exact o3
 refine U ?_
 refine R.q (q.YB (i:=hh.Size.toNat) O O Tryz.underlying9 ae ae) O ?_
 refine R.s (B':=(fun jo:Value=>[ah.row 115 jo (eP (tx.extract 0 hh.Size.toNat)).1,ah.box b1 [pV aF,iV hh.Epoch,iV hh.Side,iV hh.Size,iV hh.First,.pointer none,nS] 132,ah.box aF [ay,aC,az,iV dk.Fuse,.bool dk.Down] 120,ah.row 9 ay dk.Kept,ah.row 9 aC dk.Now,ah.row 196 az dk.Wait,ah.held w own])) (F':=(fun jo:Value=>[])) O (s.aJ (B0:=[]) (Br:=[ah.box b1 [pV aF,iV hh.Epoch,iV hh.Side,iV hh.Size,iV hh.First,.pointer none,nS] 132,ah.box aF [ay,aC,az,iV dk.Fuse,.bool dk.Down] 120,ah.row 9 ay dk.Kept,ah.row 9 aC dk.Now,ah.row 196 az dk.Wait,ah.held w own]) (F0:=[]) mH [] (fun jo:Value => .tuple #[jo,.bool (eP (tx.extract 0 hh.Size.toNat)).2]) (fun jo:Value=>[ah.row 115 jo (eP (tx.extract 0 hh.Size.toNat)).1]) (fun jo:Value=>[]) O O O U5 O O (fun w own hw H=>JF (tx.extract 0 hh.Size.toNat) w own H (by rw [ByteArray.size_extract];omega)) O) fun z1=>U ?_
 refine R.q (q.not O) O<|U ?_
 refine R.cond O O (fun h4=>?_) (fun h4=>?_)
 .exact absurd h4 (by rw [hpb];decide)
 refine R.dC (fuel:=17) [0,1,6] O O mixed O ?_
 refine D.l [0,1,4,5,6,7,8] [0,1,6] [] O<|U ?_
 refine D.one (i:=2) O ?_
 refine Do.s (s.c (q.call Qy O O (fun w hw=>fN aF ay aC az dk w (hw.b 2 O) (hw.row 3 O) (hw.row 4 O) (hw.row 5 O))) O) (fun _=>Tf [0,1,6] [] O O O) O fun _=>?_
 refine D.l [3] [0,1,6] [] O ?_
 refine Dm.yy O O (q.sub (r:=((dk.Now.length-102:Nat):Int)) O O (wr ae)) O<|U ?_
 refine D.one (i:=9) O ?_
 refine Do.s (B':=(fun g_:Value×Value×Value×Nat×Value×List jO=>[ah.box aF [g_.1,g_.2.1,g_.2.2.1,iV dk.Fuse,.bool dk.Down] 120,ah.row 9 g_.1 dk.Kept,ah.row 9 g_.2.1 dk.Now,ah.row 196 g_.2.2.1 dk.Wait,ah.box g_.2.2.2.1 [pV aF,iV (⟨102,(((dk.Now.length-102):Nat):Int),hh.First,(eZ dk 102 (Int.toNat (((dk.Now.length-102):Nat):Int)) hh.First:Int)⟩:Lg).From,iV (⟨102,(((dk.Now.length-102):Nat):Int),hh.First,(eZ dk 102 (Int.toNat (((dk.Now.length-102):Nat):Int)) hh.First:Int)⟩:Lg).Many,iV (⟨102,(((dk.Now.length-102):Nat):Int),hh.First,(eZ dk 102 (Int.toNat (((dk.Now.length-102):Nat):Int)) hh.First:Int)⟩:Lg).First,iV (⟨102,(((dk.Now.length-102):Nat):Int),hh.First,(eZ dk 102 (Int.toNat (((dk.Now.length-102):Nat):Int)) hh.First:Int)⟩:Lg).Next] 193,ah.row 115 z1 (eP (tx.extract 0 hh.Size.toNat)).1,ah.box b1 [pV aF,iV hh.Epoch,iV hh.Side,iV hh.Size,iV hh.First,.pointer none,nS] 132,ah.held w own])) (F':=(fun g_=>[ah.ls g_.2.2.2.2.1 g_.2.2.2.2.2,ah.qi (g_.2.2.2.2.2:List jO) (kZ dk 102 (Int.toNat (((dk.Now.length-102):Nat):Int)) hh.First)])) (s.aJ (B0:=[ah.box aF [ay,aC,az,iV dk.Fuse,.bool dk.Down] 120,ah.row 9 ay dk.Kept,ah.row 9 aC dk.Now,ah.row 196 az dk.Wait]) (Br:=[ah.row 115 z1 (eP (tx.extract 0 hh.Size.toNat)).1,ah.box b1 [pV aF,iV hh.Epoch,iV hh.Side,iV hh.Size,iV hh.First,.pointer none,nS] 132,ah.held w own]) (F0:=[]) [2,3,4,5,0,1,6] [] (fun g_:Value×Value×Value×Nat×Value×List jO => .tuple #[pV g_.2.2.2.1,g_.2.2.2.2.1,.nilIface]) (fun g_=>[ah.box aF [g_.1,g_.2.1,g_.2.2.1,iV dk.Fuse,.bool dk.Down] 120,ah.row 9 g_.1 dk.Kept,ah.row 9 g_.2.1 dk.Now,ah.row 196 g_.2.2.1 dk.Wait,ah.box g_.2.2.2.1 [pV aF,iV (⟨102,(((dk.Now.length-102):Nat):Int),hh.First,(eZ dk 102 (Int.toNat (((dk.Now.length-102):Nat):Int)) hh.First:Int)⟩:Lg).From,iV (⟨102,(((dk.Now.length-102):Nat):Int),hh.First,(eZ dk 102 (Int.toNat (((dk.Now.length-102):Nat):Int)) hh.First:Int)⟩:Lg).Many,iV (⟨102,(((dk.Now.length-102):Nat):Int),hh.First,(eZ dk 102 (Int.toNat (((dk.Now.length-102):Nat):Int)) hh.First:Int)⟩:Lg).First,iV (⟨102,(((dk.Now.length-102):Nat):Int),hh.First,(eZ dk 102 (Int.toNat (((dk.Now.length-102):Nat):Int)) hh.First:Int)⟩:Lg).Next] 193]) (fun g_=>[ah.ls g_.2.2.2.2.1 g_.2.2.2.2.2,ah.qi (g_.2.2.2.2.2:List jO) (kZ dk 102 (Int.toNat (((dk.Now.length-102):Nat):Int)) hh.First)]) O O O Qx O O (fun w own hw H=>ET aF ay aC az dk 102 (((dk.Now.length-102):Nat):Int) hh.First w own H (by refine ⟨aD,?_,?_,?_,?_⟩ <;> omega) hd (⟨hD.1,ae⟩)) O) (fun _=>Tf [5,6,7] [] O O O) O ?_
 rintro ⟨z8,z9,lu,mG,z12,nX⟩
 dsimp only
 refine D.l [10,11,12,13,14,15,16] [5,6,7] [] O<|U ?_
 refine D.done ?_
 refine R.Rv (F':=[ah.mb (nX:List jO),ah.ls z12 nX]) 1 O O fun hE1=>U ?_
 refine R.mp (B':=[ah.box aF [z8,z9,lu,iV dk.Fuse,.bool dk.Down] 120,ah.row 9 z8 dk.Kept,ah.row 9 z9 dk.Now,ah.row 196 lu dk.Wait,ah.box mG [pV aF,iV 102,iV (((dk.Now.length-102):Nat):Int),iV hh.First,iV (eZ dk 102 (Int.toNat (((dk.Now.length-102):Nat):Int)) hh.First:Int)] 193,ah.box b1 [pV aF,iV hh.Epoch,iV hh.Side,iV hh.Size,iV hh.First,pV mG,z1] 132,ah.held w own]) (fun _ hw=>hw.aR 5 _ O O) ?_
 refine R.loop (fun g_:Nat×Value×(List Change)=>[(4,pV b1),(127,z12),(128,iV (nX.length:Int)),(129,iV (g_.1:Int))]) (fun g_=>[ah.box aF [z8,z9,lu,iV dk.Fuse,.bool dk.Down] 120,ah.row 9 z8 dk.Kept,ah.row 9 z9 dk.Now,ah.row 196 lu dk.Wait,ah.box mG [pV aF,iV 102,iV (((dk.Now.length-102):Nat):Int),iV hh.First,iV (eZ dk 102 (Int.toNat (((dk.Now.length-102):Nat):Int)) hh.First:Int)] 193,ah.box b1 [pV aF,iV hh.Epoch,iV hh.Side,iV hh.Size,iV hh.First,pV mG,g_.2.1] 132,ah.held w own]) (fun g_=>[ah.ls g_.2.1 g_.2.2,ah.ls z1 (eP (tx.extract 0 hh.Size.toNat)).1,ah.mb (nX:List jO),ah.ls z12 nX]) (fun g_=>g_.1<=nX.length/\g_.2.2=jU (eP (rO dk)).1 ((nX.map jO.L).take g_.1)) (fun g_=>nX.length-g_.1) (0,z1,(eP (tx.extract 0 hh.Size.toNat)).1) O (by exact ⟨ae,by rw [hth];rfl⟩) ⟨rfl,rfl,rfl,rfl,trivial⟩ (fun _=>Wd.pick jF [0,0,1,2] O O O) ?_
 rintro ⟨k,vr,rr⟩ ⟨hk,HR⟩
 dsimp only at *
 have ZS:=OV hE1;have hWs:∀c∈nX.map jO.L,c.length<=98:=fun c hc=>by rw [hE1] at hc;have:=GG c hc;omega
 have hrl:rr.length<=12004:=by have h1:=yU (M:=98) ((nX.map jO.L).take k) (eP (rO dk)).1 (fun c hc=>hWs c (List.mem_of_mem_take hc));have h2:=GF (rO dk);have h3:(rO dk).size<=2400:=(by rw [<- hth,ByteArray.size_extract];omega);rw [List.length_take,List.length_map] at h1;rw [HR];omega
 refine U ?_
 refine C (k<nX.length) ?_ ?_ <;> intro h5
 .
  obtain ⟨x1,hx1⟩:∃z,nX[k]? = some z:=⟨_,List.getElem?_eq_getElem ae⟩
  refine U ?_
  have hxl:=hWs x1.L (List.mem_map_of_mem (List.mem_of_getElem? hx1))
  refine U ?_
  refine R.s (B':=(fun jo:Value=>[ah.row 115 jo (bI rr x1.L),ah.box aF [z8,z9,lu,iV dk.Fuse,.bool dk.Down] 120,ah.row 9 z8 dk.Kept,ah.row 9 z9 dk.Now,ah.row 196 lu dk.Wait,ah.box mG [pV aF,iV 102,iV (((dk.Now.length-102):Nat):Int),iV hh.First,iV (eZ dk 102 (Int.toNat (((dk.Now.length-102):Nat):Int)) hh.First:Int)] 193,ah.box b1 [pV aF,iV hh.Epoch,iV hh.Side,iV hh.Size,iV hh.First,pV mG,vr] 132,ah.held w own])) (F':=(fun jo:Value=>[ah.ls x1.cv x1.L,ah.ls vr rr,ah.ls z1 (eP (tx.extract 0 hh.Size.toNat)).1,ah.mb (nX:List jO),ah.ls z12 nX])) O (s.pre (B2:=[ah.box aF [z8,z9,lu,iV dk.Fuse,.bool dk.Down] 120,ah.row 9 z8 dk.Kept,ah.row 9 z9 dk.Now,ah.row 196 lu dk.Wait,ah.box mG [pV aF,iV 102,iV (((dk.Now.length-102):Nat):Int),iV hh.First,iV (eZ dk 102 (Int.toNat (((dk.Now.length-102):Nat):Int)) hh.First:Int)] 193,ah.box b1 [pV aF,iV hh.Epoch,iV hh.Side,iV hh.Size,iV hh.First,pV mG,vr] 132,ah.held w own]) (F2:=[ah.ls x1.cv x1.L,ah.ls vr rr,ah.ls z1 (eP (tx.extract 0 hh.Size.toNat)).1,ah.mb (nX:List jO),ah.ls z12 nX]) (fun _ hw=>hw.Ru (x:=x1) 2 O (List.mem_of_getElem? hx1)) (s.aJ (B0:=[]) (Br:=[ah.box aF [z8,z9,lu,iV dk.Fuse,.bool dk.Down] 120,ah.row 9 z8 dk.Kept,ah.row 9 z9 dk.Now,ah.row 196 lu dk.Wait,ah.box mG [pV aF,iV 102,iV (((dk.Now.length-102):Nat):Int),iV hh.First,iV (eZ dk 102 (Int.toNat (((dk.Now.length-102):Nat):Int)) hh.First:Int)] 193,ah.box b1 [pV aF,iV hh.Epoch,iV hh.Side,iV hh.Size,iV hh.First,pV mG,vr] 132,ah.held w own]) (F0:=[ah.ls vr rr,ah.ls x1.cv x1.L]) jF [1,0] (fun jo:Value=>jo) (fun jo:Value=>[ah.row 115 jo (bI rr x1.L)]) (fun jo:Value=>[]) O O O Ma O O (fun w own hw H=>oU vr rr x1.cv x1.L w own H ae) O)) fun zA=>U ?_
  refine R.mp (B':=[ah.box aF [z8,z9,lu,iV dk.Fuse,.bool dk.Down] 120,ah.row 9 z8 dk.Kept,ah.row 9 z9 dk.Now,ah.row 196 lu dk.Wait,ah.box mG [pV aF,iV 102,iV (((dk.Now.length-102):Nat):Int),iV hh.First,iV (eZ dk 102 (Int.toNat (((dk.Now.length-102):Nat):Int)) hh.First:Int)] 193,ah.box b1 [pV aF,iV hh.Epoch,iV hh.Side,iV hh.Size,iV hh.First,pV mG,zA] 132,ah.held w own]) (fun _ hw=>hw.aR 0 _ O O) ?_
  refine R.back (k+1,zA,bI rr x1.L) O (by exact ⟨ae,by rw [EU (c:=x1.L) (by rw [List.getElem?_map,hx1];rfl),<- HR]⟩) aG ⟨rfl,rfl,rfl,rfl,trivial⟩ (Tf jF [0,3,4,5] O O O)
 have hz:(dk,(bg dk).c,(bg dk).L)=(dk,(⟨hh.Epoch,hh.Side,hh.Size,hh.First,rr⟩:gZ),(⟨102,(((dk.Now.length-102):Nat):Int),hh.First,(eZ dk 102 (Int.toNat (((dk.Now.length-102):Nat):Int)) hh.First:Int)⟩:Lg)):=by (rw [HR,List.take_of_length_le (by rw [List.length_map];omega),hE1,W8,show ((dk.Now.length-102:Nat):Int)=(dk.Now.length:Int)-102 by omega];rfl)
 have hz0:(bg dk).c=(⟨hh.Epoch,hh.Side,hh.Size,hh.First,rr⟩:gZ):=congrArg (fun t_=>t_.2.1) hz
 rw [hz0]
 have hz1:(bg dk).L=(⟨102,(((dk.Now.length-102):Nat):Int),hh.First,(eZ dk 102 (Int.toNat (((dk.Now.length-102):Nat):Int)) hh.First:Int)⟩:Lg):=congrArg (fun t_=>t_.2.2) hz
 rw [hz1]
 exact R.x2 (z8,z9,lu,b1,vr,mG) [0,1,2,3,5,4,6] [0]
end
section
open Go Go.RowKit
def GH:Option Nat->Fence
  | none=>Fence.wide
  | some l=>Fence.wide.inRound l
theorem GI (r:Option Nat)(f:FuncId):(GH r).fn f:=by cases r <;> exact trivial
theorem uV (r:Option Nat):(GH r).depth.isSome=true->1<=9:=fun _=>by decide
theorem JK {r:Option Nat}{m:Nat}{P:Program}{f:FuncId}{args:Array Value}{w:World}{R:Ending->World->Prop}(h:Calls P f args w R):CallsIn (GH r) m P f args w R:=by
 cases r with
 | none=>exact callsIn_wide.2 h
 | some l=>exact CallsIn.inRound l (callsIn_wide.2 h)
theorem MP {r:Option Nat}{m:Nat}{P:Program}{row:String}{args:Array Value}{w:World}{R:Value->World->Prop}(h:Rows P row args w R):RowsIn (GH r) m P row args w R:=by
 have key:RowsIn Fence.wide m P row args w R:=fun c cs _=>let ⟨v,w',q,s⟩:=h c cs;⟨v,w',q,stepsIn_wide.2 s⟩
 cases r with
 | none=>exact key
 | some l=>exact key
def ny (a:Act)(ds:List Deferred):Act:={ a with defers:=a.defers++ds}
theorem nf (a:Act)(ds:List Deferred)(dst:Option Nat)(v:Value):(ny a ds).put dst v=ny (a.put dst v) ds:=by cases dst <;> rfl
theorem E0 (a:Act)(ds:List Deferred):(ny a ds).eval=a.eval:=rfl
section
variable {P:Program} {r:Option Nat} {ds:List Deferred}
def ndef (o:Oper):Bool:=match o.op with | .defer _=>false|_=>true
theorem OW {o:Oper}(h:ndef o=true):∀c,o.op ≠ .defer c:=fun c e=>by grind [ndef]
theorem MQ {o:Oper}{a:Act}{w:World}{K K':Act->World->Prop}{Q Q':Exit->Act->World->Prop}(hnd:ndef o=true)(hK:∀a w,K a w->K' (ny a ds) w)(hQ:∀e a w,Q e a w->Q' e (ny a ds) w)
 (h:o.wp P a w K Q):o.wpIn (GH r) 9 P (ny a ds) w K' Q':=by
 refine ⟨fun f _=>GI r f,?_⟩
 rw [Oper.semAt_eq _ _ _ (OW hnd),E0]
 unfold Oper.wp at h
 generalize (execOp a.eval o).run P w=x at *
 cases x with
 | ok y w' =>
  cases y <;> simp only [Oper.upon] at h <;> simp only [Oper.uponIn]
  case value v=>grind [nf]
  case skip=>grind [nf]
  case defer d =>
   have e:({ ny a ds with defers:=d::(ny a ds).defers}:Act)=ny { a with defers:=d::a.defers} ds:=rfl
   grind [nf]
  case enter f args =>
   refine ⟨uV r,(JK h).mono fun en w'' he=>?_⟩
   cases en with
   | returned v=>grind [nf]
   | panicked c=>grind
   | outgrown=>obtain ⟨a',w',hq⟩:=he;exact ⟨_,_,hQ _ _ _ hq⟩
  case row row args =>
   exact ⟨uV r,(MP h).mono fun v w'' he=>by grind [nf]⟩
 | halt x w' =>
  cases x <;> simp only [Oper.upon] at h <;> simp only [Oper.uponIn]
  grind
theorem Iy {ops:Array Oper}{Q Q':Exit->Act->World->Prop}(hQ:∀e a w,Q e a w->Q' e (ny a ds) w)(hO:∀a w,¬ Q .outgrown a w):∀ (rest:List Oper) (a:Act) (w:World),rest.all ndef=true->wpList P ops Q rest a w->wpListIn (GH r) 9 P ops Q' rest (ny a ds) w
 | [],a,w,_,h=>hQ _ _ _ h
 | o::rest,a,w,hn,h=>by
  rw [List.all_cons,Bool.and_eq_true] at hn
  have ih:∀a w,wpList P ops Q rest a w->wpListIn (GH r) 9 P ops Q' rest (ny a ds) w:=fun a w=>Iy hQ hO rest a w hn.2
  unfold wpList at h
  unfold wpListIn
  by_cases hw:Region.wanted o (yielded ops a.tmps)=true
  .
   rw [if_pos hw] at h
   rw [if_pos (show Region.wanted o (yielded ops (ny a ds).tmps)=true from hw)]
   rcases h with h|⟨_,a',w',h⟩
   .grind [MQ]
   grind
  rw [if_neg hw] at h
  rw [if_neg (show ¬ Region.wanted o (yielded ops (ny a ds).tmps)=true from hw),nf]
  grind [GI]
theorem MR {ops:Array Oper}{Q Q':Exit->Act->World->Prop}(hn:ops.toList.all ndef=true)(hQ:∀e a w,Q e a w->Q' e (ny a ds) w)(hO:∀a w,¬ Q .outgrown a w) :
 ∀ (fuel:Nat) (ls:Array Bool) (a:Act) (w:World),wpAny P .any ops Q fuel ls a w->wpAnyIn (GH r) 9 P .any ops Q' fuel ls (ny a ds) w
 | 0,ls,a,w,h=>⟨h.1,hQ _ _ _ h.2⟩
 | fuel+1,ls,a,w,h=>by
  refine ⟨fun h0=>hQ _ _ _ (h.1 h0),fun i hi=>?_⟩
  have h1:=h.2 i hi
  have ih:∀a w,wpAny P .any ops Q fuel (ls.setIfInBounds i true) a w->wpAnyIn (GH r) 9 P .any ops Q' fuel (ls.setIfInBounds i true) (ny a ds) w:=fun a w=>MR hn hQ hO fuel (ls.setIfInBounds i true) a w
  unfold wpOp at h1
  unfold wpOpIn
  cases ho:ops[i]? with
  | none=>grind
  | some o =>
   rw [ho] at h1
   dsimp only at h1 ⊢
   have hno:ndef o=true:=List.all_eq_true.1 hn o (Array.mem_toList_iff.2 (Array.mem_of_getElem? ho))
   by_cases hw:Region.wanted o (yielded ops a.tmps)=true
   .
    rw [if_pos hw] at h1
    rw [if_pos (show Region.wanted o (yielded ops (ny a ds).tmps)=true from hw)]
    rcases h1 with h1|⟨_,a',w',h1⟩
    .grind [MQ]
    grind
   rw [if_neg hw] at h1
   rw [if_neg (show ¬ Region.wanted o (yielded ops (ny a ds).tmps)=true from hw),nf]
   grind [GI]
end
def lx (r:Option Nat)(P:Program)(Q:Exit->Act->World->Prop):List It->Exit->Act->World->Prop
  | [],e,a,w=>Q e a w
  | .c x::k,.normal,a,w=>x.wpIn (GH r) 9 P (lx r P Q k) a w
  | .c _::k,e,a,w=>lx r P Q k e a w
  | .b id::k,.exit id',a,w=>bif Nat.beq id' id then lx r P Q k .normal a w else lx r P Q k (.exit id') a w
  | .b _::k,e,a,w=>lx r P Q k e a w
  | .back I::k,.normal,a,w=>I a w
  | .back _::k,e,a,w=>lx r P Q k e a w
section
variable {P:Program} {r:Option Nat} {ds:List Deferred} {Q:Exit->Act->World->Prop}
theorem MS {x y:Code}{k:List It}{a:Act}{w:World}(h:lx r P Q (.c x :: .c y::k) .normal a w):lx r P Q (.c (.seq x y)::k) .normal a w :=
 wpIn_seq (wpIn_mono h (fun e a w q=>by cases e <;> exact q))
theorem GJ {id:Nat}{x:Code}{k:List It}{a:Act}{w:World}(h:lx r P Q (.c x :: .b id::k) .normal a w):lx r P Q (.c (.block id x)::k) .normal a w :=
 wpIn_block (wpIn_mono h (fun e a w q=>by
  cases e with
  | exit id' =>
   simp only [lx] at q
   by_cases hid:id'=id
   .simp_all [Exit.inBlock]
   have e':Nat.beq id' id=false:=Bool.eq_false_iff.2 (fun h=>hid (Nat.eq_of_beq_eq_true h))
   grind [Exit.inBlock]
  | _=>exact q))
theorem qX {id:Nat}:∀ {k k':List It} {a:Act} {w:World},j7 id k=some k'->lx r P Q k' .normal a w->lx r P Q k (.exit id) a w
 | [],k',a,w,h,hq=>by simp [j7] at h
 | .c _::k,k',a,w,h,hq=>qX (k:=k) (by simpa [j7] using h) hq
 | .back _::k,k',a,w,h,hq=>qX (k:=k) (by simpa [j7] using h) hq
 | .b id'::k,k',a,w,h,hq=>by
  simp only [j7] at h
  simp only [lx]
  cases hb:Nat.beq id id' with
  | true=>rw [hb] at h;simp at h;subst h;exact hq
  | false=>rw [hb] at h;simp at h;exact qX h hq
theorem ez:∀ (f:Nat) {k:List It} {a:Act} {w:World},lx r P Q (norm f k) .normal a w->lx r P Q k .normal a w
 | 0,k,a,w,h=>h
 | f+1,k,a,w,h=>by
  unfold norm at h
  split at h
  .exact MS (ez f h)
  .exact wpIn_skip (ez f h)
  .exact wpIn_label (ez f h)
  .exact GJ (ez f h)
  .
   have:=ez f h
   exact this
  .
   split at h
   .rename_i hx;exact wpIn_exit (qX hx (ez f h))
   exact h
  exact h
theorem tU:∀ {k:List It} {a:Act} {w:World},Q .ret a w->lx r P Q k .ret a w
 | [],a,w,h=>h
 | .c _::k,a,w,h=>tU (k:=k) h
 | .b _::k,a,w,h=>tU (k:=k) h
 | .back _::k,a,w,h=>tU (k:=k) h
theorem qt (hO:∀a w,¬ Q .outgrown a w):∀ (k:List It) (a:Act) (w:World),¬ lx r P Q k .outgrown a w
 | [],a,w=>hO a w
 | .c _::k,a,w=>qt hO k a w
 | .b _::k,a,w=>qt hO k a w
 | .back _::k,a,w=>qt hO k a w
theorem mj:∀ (k:List It) (e:Exit) (a:Act) (w:World),lx none P Q k e a w->pH P Q k e a w
 | [],e,a,w,h=>h
 | .c x::k,e,a,w,h=>by
  cases e with
  | normal=>exact wp_mono (wpIn_wide.1 h) (fun e a w q=>mj k e a w q)
  | _=>exact mj k _ a w h
 | .b id::k,e,a,w,h=>by
  cases e with
  | exit id' =>
   simp only [lx] at h
   simp only [pH]
   cases hb:Nat.beq id' id with
   | true=>rw [hb] at h;exact mj k _ a w h
   | false=>rw [hb] at h;exact mj k _ a w h
  | _=>exact mj k _ a w h
 | .back I::k,e,a,w,h=>by
  cases e with
  | normal=>exact h
  | _=>exact mj k _ a w h
end
def lh (r:Option Nat)(ds:List Deferred)(P:Program)(n:Nat)(we:World)(X:List Nat)(Q:Exit->Act->World->Prop)(k:List It)(L:Fm)(B F:List ah):Prop :=
  ∀a w,Fr n L a->Wd we X B F w->lx r P Q k .normal (ny a ds) w
def qI (r:Option Nat)(ds:List Deferred)(P:Program)(Q:Exit->Act->World->Prop)(k:List It):Exit->Act->World->Prop:=fun e a w=>lx r P Q k e (ny a ds) w
section
variable {P:Program} {r:Option Nat} {ds:List Deferred} {n:Nat} {we:World} {X:List Nat} {Q:Exit->Act->World->Prop} {k k':List It} {L L':Fm} {B F:List ah} {ops rest:List Oper}
theorem I.nil (h:lh r ds P n we X Q k L B F):Run P n we X (qI r ds P Q k) [] L B F:=fun a w ha hw=>h a w ha hw
theorem I.reg {id:Nat}(h:norm 200 k = .c (.region id ops.toArray false)::k')(hn:ops.all ndef=true)(hO:∀a w,¬ Q .outgrown a w)(hr:Rg P n we X (qI r ds P Q k') ops ops [] L B F):lh r ds P n we X Q k L B F :=
 fun a w ha hw=>ez 200 (h▸wpIn_region_lit (Iy (Q:=pH P (qI r ds P Q k') []) (fun e a w q=>q) (fun a w q=>qt hO k' _ _ q) ops a w hn (hr a w ha hw)))
theorem I.FP {id fuel:Nat}(S:World->Prop)(h:norm 200 k = .c (.region id ops.toArray true)::k')(hn:ops.all ndef=true)(hO:∀a w,¬ Q .outgrown a w)(hm:P.follows .mixedOrders=true)(hl:ops.length=fuel)
 (hr:Dg S P n we X (qI r ds P Q k') ops fuel (Array.replicate fuel false) [] L B F):lh r ds P n we X Q k L B F:=by
 intro a w ha hw
 refine ez 200 (h ▸ ?_)
 refine wpIn_region_any hm ?_
 have h1:=wpAny_of_held _ _ _ _ (hr a _ ha (hw.grow (lL.draw w)))
 grind [NoPanic,pH,qI,lx,ny,MR,NoPanic.imp,qt]
theorem I.nC {c:Operand}{x y:Code}(h:norm 200 k = .c (.cond c x y)::k')(hc:ev L c=some (.bool true))(hr:lh r ds P n we X Q (.c x::k') L B F):lh r ds P n we X Q k L B F :=
 fun a w ha hw=>ez 200 (h▸wpIn_cond_true (ha.ev hc) (hr a w ha hw))
theorem I.pK {c:Operand}{x y:Code}(h:norm 200 k = .c (.cond c x y)::k')(hc:ev L c=some (.bool false))(hr:lh r ds P n we X Q (.c y::k') L B F):lh r ds P n we X Q k L B F :=
 fun a w ha hw=>ez 200 (h▸wpIn_cond_false (ha.ev hc) (hr a w ha hw))
theorem I.mp {B' F':List ah}(hm:∀w,Wd we X B F w->Wd we X B' F' w)(h:lh r ds P n we X Q k L B' F'):lh r ds P n we X Q k L B F:=fun a w ha hw=>h a w ha (hm w hw)
theorem I.ret (h:norm 200 k = .c .ret::k')(hq:∀a w,Fr n L a->Wd we X B F w->Q .ret (ny a ds) w):lh r ds P n we X Q k L B F :=
 fun a w ha hw=>ez 200 (h▸wpIn_ret (tU (hq a w ha hw)))
theorem I.end (h:norm 200 k=[])(hq:∀a w,Fr n L a->Wd we X B F w->Q .normal (ny a ds) w):lh r ds P n we X Q k L B F :=
 fun a w ha hw=>ez 200 (h▸hq a w ha hw)
end
end
end Go.Proofs.YtnmpibjlnninjaaGreatDoor
