import Derived.Test.YtfnicihkpnjahaaGreatDoorA3
import Derived.Shelf.Unicode.DecodeSlow
import Derived.Lib.SpaceU
import Derived.Deep.Slices
import Derived.DataReads
import Derived.SizedLaws
import Derived.Test.YtfnicihkpnjahaaGreatDoorChecked
import Derived.KernelRfl
import Derived.RangeFuncNested
import Derived.RangeFuncBound
import Derived.RangeFuncCalls
import Derived.RangeFuncLeaves
import Derived.Shelf.Abstract
import Derived.WalkKit
import Derived.OwnWalkIn
import Derived.TacticsInMore
import Derived.LoopNIn
import Derived.LoopIn
import Derived.Lib.MapLaws
import Derived.Stop.FmtQuoteTie
/-
  Part 4 of the tool: an abstract machine over the model, proved sound, and what it says of the functions that the law reaches. Condition: none but those that each theorem names.
-/
set_option linter.unusedVariables false
set_option linter.unusedSimpArgs false
set_option maxRecDepth 100000
set_option maxHeartbeats 4000000
namespace Go.Am
open Go.RowKit
def uq:List AV:=(List.range 256).map fun b=>.int .u8 (Lib.firstT b:Nat)
def Dy:List AV:=(List.range 32).map fun i=>.int .u8 ((if i % 2=0 then Lib.accLo (i / 2) else Lib.accHi (i / 2):Nat):Int)
def pA(a b:Nat):Nat→Option (List AV):=fun g=>bif Nat.beq g a then some uq else bif Nat.beq g b then some Dy else none
theorem Dz:uq.length=256:=by simp [uq]
theorem Hg:Dy.length=32:=by simp [Dy]
theorem ur{K:aj}{H:List AObj}{w:World}(hi:Inv K H w){g:Nat}{cs:List AV}(hg:K.glob g=some cs){j:Nat}{n:Int}(hj:cs[j]?=some (.int .u8 n)):w.cell? ⟨g,j,none⟩=some (.int .u8 n):=by
 have hv:=hi.glob g cs hg;generalize hp:Value.pointer (some ⟨g,0,none⟩)=v at hv;cases hv with
 |vptr _ _ _ _ b o vs hl hi2 hv2=>
  injection hp with hp;injection hp with hp;injection hp with h1 h2;subst h1;have h0:o=0:=by omega
  subst h0;have h3:=hi.imm _ _ _ (hi2 0 j cs (.int .u8 n) rfl hj);have h4:=hv2 0 j cs (.int .u8 n) rfl hj;generalize vs 0 j=u at h3 h4;cases h4;simpa using h3
theorem Jf{a b:Nat}(hab:Nat.beq b a=false){K:aj}{H:List AObj}{w:World}(hi:Inv K H w)(hg:K.glob=pA a b):Lib.Utf8Tabs a b w:=by
 have ha:K.glob a=some uq:=by rw [hg];simp [pA]
 have hb:K.glob b=some Dy:=by rw [hg];simp [pA,hab]
 refine ⟨fun c hc=>ur hi ha ?_,fun i hi2=>⟨ur hi hb ?_,ur hi hb ?_⟩⟩
 ·simp [uq,hc]
 ·have h1:2*i<32:=by omega
  have h2:2*i % 2=0:=by omega
  have h3:2*i / 2=i:=by omega
  simp [Dy,h1,h2,h3]
 ·have h1:2*i+1<32:=by omega
  have h2:¬ (2*i+1) % 2=0:=by omega
  have h3:(2*i+1) / 2=i:=by omega
  simp [Dy,h1,h2,h3]
theorem DA{a b:Nat}{W:World}(hT:Lib.Utf8Tabs a b W)(g:Nat)(cs:List AV)(h:pA a b g=some cs):V (aj.start W (pA a b)) (.vptr cs.length [cs] 0 0) (.pointer (some ⟨g,0,none⟩)):=by
 have mk:∀ f:Nat→Nat,(∀ j,j<cs.length→W.cell? ⟨g,j,none⟩=some (.int .u8 (f j:Nat))∧cs[j]?=some (.int .u8 (f j:Nat)))→V (aj.start W (pA a b)) (.vptr cs.length [cs] 0 0) (.pointer (some ⟨g,0,none⟩)):=fun f hf=>by
  have key:=V.vptr (K:=aj.start W (pA a b)) cs.length [cs] 0 0 g 0 (fun _ j=>.int .u8 (f j:Nat)) (fun r hr=>by simp at hr;rw [hr])
   (fun i j r av h1 h2=>by
    cases i with
    |zero=>
     obtain rfl:r=cs:=by simpa using h1.symm
     have hlt:=(List.getElem?_eq_some_iff.1 h2).1;simpa [aj.start] using (hf j hlt).1
    |succ i=>simp at h1)
   (fun i j r av h1 h2=>by
    cases i with
    |zero=>
     obtain rfl:r=cs:=by simpa using h1.symm
     have hlt:=(List.getElem?_eq_some_iff.1 h2).1;have h3:=(hf j hlt).2;rw [h2] at h3;cases h3;exact .int _ _
    |succ i=>simp at h1)
  simpa using key
 unfold pA at h;cases h1:Nat.beq g a with
 |true=>
  rw [h1] at h;cases h;rw [Nat.eq_of_beq_eq_true h1] at mk ⊢;refine mk (fun j=>Lib.firstT j) fun j hj => ?_
  rw [Dz] at hj;exact ⟨hT.1 j hj,by simp [uq,hj]⟩
 |false=>
  rw [h1] at h;cases h2:Nat.beq g b with
  |false=>rw [h2] at h;cases h
  |true=>
   rw [h2] at h;cases h;rw [Nat.eq_of_beq_eq_true h2] at mk ⊢;refine mk (fun j=>if j % 2=0 then Lib.accLo (j / 2) else Lib.accHi (j / 2)) fun j hj => ?_
   rw [Hg] at hj;refine ⟨?_,by simp [Dy,hj]⟩;obtain ⟨h3,h4⟩:=hT.2 (j / 2) (by omega)
   by_cases hm:j % 2=0
   ·rw [if_pos hm,← h3];congr 2;omega
   ·rw [if_neg hm,← h4];congr 2;omega
theorem xH(n:Nat)(f:Nat→Int):∀ l:List Nat,wkbL n (l.map fun x=>.int .u8 (f x))=true
 |[]=>rfl
 |x::l=>by rw [List.map_cons];simp [wkbL,wkb,xH n f l]
theorem Hh{a b:Nat}(n g:Nat)(cs:List AV)(h:pA a b g=some cs):wkbL n cs=true:=by
 unfold pA at h;cases h1:Nat.beq g a with
 |true=>rw [h1] at h;cases h;exact xH n _ _
 |false=>
  rw [h1] at h;cases h2:Nat.beq g b with
  |false=>rw [h2] at h;cases h
  |true=>rw [h2] at h;cases h;exact xH n _ _
def vu(s:List UInt8):Nat×Nat:=if s=[] then (65533,0) else Lib.decodeL s
theorem Jg(s:List UInt8):Lib.decodeGo ⟨s.toArray⟩=vu s:=by
 unfold Lib.decodeGo vu Lib.decodeL;cases s with
 |nil=>rfl
 |cons c t=>simp [ByteArray.size]
theorem Jh{P:Program}{f:FuncId}{a b:Nat}(hab:Nat.beq b a=false)(ef:∀ args w,(callFunc f args).run P w = .ok (.enter f args) w)
  (hf:∀ (s:ByteArray) (w:World),Lib.Utf8Tabs a b w→Calls P f #[.string s] w fun e w'=>e = .returned (.tuple #[.int .i32 (Lib.decodeGo s).1,.int .i64 (Lib.decodeGo s).2])∧Below w.heap.size w w') (s:List UInt8) (H:List AObj) :
  cB P (pA a b) f [.str s] H fun r H'=>r = .ret (.tuple [.int .i32 ((vu s).1:Nat),.int .i64 ((vu s).2:Nat)])∧H'=H:=by
 intro K w cargs hg hi hv;obtain ⟨d,rfl,hd⟩:=s3 hv;cases hd;refine .inl ⟨ef _ _,(hf _ w (Jf hab hi hg)).mono ?_⟩;rintro e w' ⟨rfl,hb⟩;refine ⟨K,.ret (.tuple [.int .i32 ((vu s).1:Nat),.int .i64 ((vu s).2:Nat)]),_,.refl K, ?_,hi.kept hb,rfl,rfl⟩;rw [Jg];refine (.tuple [.int .i32 ((vu s).1:Nat),.int .i64 ((vu s).2:Nat)] #[.int .i32 ((vu s).1:Nat),.int .i64 ((vu s).2:Nat)] rfl fun i av h => ?_:V K _ _)
 match i,h with
 |0,h=>cases h;exact .int _ _
 |1,h=>cases h;exact .int _ _
section
set_option linter.defProp false
abbrev Str:=List UInt8
abbrev bN:Nat:=140737488351232
def I64(n:Int):Prop := -9223372036854775808≤n∧n≤9223372036854775807
structure Sl (α:Type) where
 tag:Tag
 l:List α
def Tag.strip:Tag→Tag
 |.own _=>.any
 |t=>t
def Sl.strip{α:Type}(s:Sl α):Sl α:=⟨s.tag.strip,s.l⟩
theorem qE(t:Tag)(n:Nat)(r:List (List AV)):AV.strip (.slice t n r) = .slice t.strip n r:=by cases t<;>rfl
theorem uu:(∀ (t:Tag) (n:Nat) (r:List (List AV)),AV.strip (.slice t n r) = .slice t.strip n r)∧(∀ (x:AV) (l:List AV),List.map AV.strip (x::l)=AV.strip x::List.map AV.strip l)∧List.map AV.strip []=[]∧(∀ a b:List AV,List.map AV.strip (a++b)=List.map AV.strip a++List.map AV.strip b):=
 ⟨qE,fun _ _=>rfl,rfl,fun _ _=>List.map_append⟩
structure Sl.ok {α:Type} (s:Sl α) (n:Nat) (p:α→Prop):Prop where
 tag:Cb n s.tag
 len:s.l.length≤bN
 all:∀ x∈s.l,p x
theorem Cb.mono{n m:Nat}{t:Tag}(h:Cb n t)(hn:n≤m):Cb m t:=by
 cases t<;>first | trivial | exact Nat.lt_of_lt_of_le h hn
theorem Sl.ok.mono{α:Type}{s:Sl α}{n m:Nat}{p q:α→Prop}(h:s.ok n p)(hn:n≤m)(hp:∀ x,p x→q x):s.ok m q:=
 ⟨h.tag.mono hn,h.len,fun x hx=>hp x (h.all x hx)⟩
theorem Sl.ok.wk{α:Type}{s:Sl α}{n esz:Nat}{p:α→Prop}{row:α→List AV}(h:s.ok n p)(hr:∀ x,p x→WkL n (row x) (row x)):Wk n (.slice s.tag esz (s.l.map row)) (.slice s.tag esz (s.l.map row)):=
 wk_slice h.tag (by rw [rowsWk_map];exact fun x hx=>hr x (h.all x hx))
def bK(s:Str):List AV:=[.str s]
def KP(n:Int):List AV:=[.int .i64 n]
structure aa where
 kind:Int
 text:Str
 car:Bool
def aa.row(x:aa):List AV:=[.int .u8 x.kind,.str x.text,.bool x.car]
theorem bu:(∀ x:aa,oc 3 (aa.row x)=some (aa.row x))∧(∀ x:aa,bW none (aa.row x) 0=some (.int .u8 x.kind))∧(∀ x:aa,bW none (aa.row x) 1=some (.str x.text))∧(∀ x:aa,bW none (aa.row x) 2=some (.bool x.car))∧(∀ x:aa,(aa.row x).length=3)∧(∀ x:aa,(aa.row x).all AV.cell=true)∧(∀ x:aa,∀ c0 c1 c2:AV,bC [c0,c1,c2] 0 (aa.row x)=aa.row x)∧(∀ x:aa,∀ y:aa,bC (aa.row y) 0 (aa.row x)=aa.row x)∧(∀ x:aa,∀ (y:Int),bC (aa.row x) 0 [.int .u8 y]=aa.row { x with kind:=y })∧(∀ x:aa,∀ (y:Str),bC (aa.row x) 1 [.str y]=aa.row { x with text:=y })∧(∀ x:aa,∀ (y:Bool),bC (aa.row x) 2 [.bool y]=aa.row { x with car:=y })∧(∀ x:aa,(aa.row x).map AV.strip=aa.row x)∧(∀ x:aa,(aa.row x).take 3=aa.row x)∧(∀ x:aa,(aa.row x).drop 3=[]):=
 by refine ⟨?_, ?_, ?_, ?_, ?_, ?_, ?_, ?_, ?_, ?_, ?_, ?_, ?_, ?_⟩<;>(intros;first | rfl | (simp only [aa.row];rfl) | (simp only [aa.row,uu];rfl))
structure aa.ok (n:Nat) (x:aa):Prop where
 text:x.text.length≤bN
theorem aa.ok.mono{n m:Nat}{x:aa}(h:x.ok n)(hn:n≤m):x.ok m:=⟨h.text⟩
theorem aa.ok.wk{n:Nat}{x:aa}(h:x.ok n):WkL n x.row x.row:=⟨wk_int _ _ _,wk_str _ _,wk_bool _ _,trivial⟩
structure aL where
 kind:Int
 pieces:Sl aa
def aL.row(x:aL):List AV:=[.int .u8 x.kind,.slice x.pieces.tag 3 (x.pieces.l.map aa.row)]
def aL.strip(x:aL):aL := { x with pieces:=x.pieces.strip }
theorem eI:(∀ x:aL,oc 2 (aL.row x)=some (aL.row x))∧(∀ x:aL,bW none (aL.row x) 0=some (.int .u8 x.kind))∧(∀ x:aL,bW none (aL.row x) 1=some (.slice x.pieces.tag 3 (x.pieces.l.map aa.row)))∧(∀ x:aL,(aL.row x).length=2)∧(∀ x:aL,(aL.row x).all AV.cell=true)∧(∀ x:aL,∀ c0 c1:AV,bC [c0,c1] 0 (aL.row x)=aL.row x)∧(∀ x:aL,∀ y:aL,bC (aL.row y) 0 (aL.row x)=aL.row x)∧(∀ x:aL,∀ (y:Int),bC (aL.row x) 0 [.int .u8 y]=aL.row { x with kind:=y })∧(∀ x:aL,∀ (t:Tag) (l:List aa),bC (aL.row x) 1 [.slice t 3 (l.map aa.row)]=aL.row { x with pieces:=⟨t,l⟩ })∧(∀ x:aL,(aL.row x).map AV.strip=aL.row x.strip)∧(∀ x:aL,(aL.row x).take 2=aL.row x)∧(∀ x:aL,(aL.row x).drop 2=[]):=
 by refine ⟨?_, ?_, ?_, ?_, ?_, ?_, ?_, ?_, ?_, ?_, ?_, ?_⟩<;>(intros;first | rfl | (simp only [aL.row];rfl) | (simp only [aL.row,uu];rfl))
structure aL.ok (n:Nat) (x:aL):Prop where
 pieces:x.pieces.ok n (aa.ok n)
theorem aL.ok.mono{n m:Nat}{x:aL}(h:x.ok n)(hn:n≤m):x.ok m:=⟨h.pieces.mono hn (fun _ h=>h.mono hn)⟩
theorem aL.ok.wk{n:Nat}{x:aL}(h:x.ok n):WkL n x.row x.row:=⟨wk_int _ _ _,h.pieces.wk (fun _ h=>h.wk),trivial⟩
structure Docu where
 blocks:Sl aL
def Docu.row(x:Docu):List AV:=[.slice x.blocks.tag 2 (x.blocks.l.map aL.row)]
def Docu.strip(x:Docu):Docu := { x with blocks:=x.blocks.strip }
theorem jR:(∀ x:Docu,oc 1 (Docu.row x)=some (Docu.row x))∧(∀ x:Docu,bW none (Docu.row x) 0=some (.slice x.blocks.tag 2 (x.blocks.l.map aL.row)))∧(∀ x:Docu,(Docu.row x).length=1)∧(∀ x:Docu,(Docu.row x).all AV.cell=true)∧(∀ x:Docu,∀ c0:AV,bC [c0] 0 (Docu.row x)=Docu.row x)∧(∀ x:Docu,∀ y:Docu,bC (Docu.row y) 0 (Docu.row x)=Docu.row x)∧(∀ x:Docu,∀ (t:Tag) (l:List aL),bC (Docu.row x) 0 [.slice t 2 (l.map aL.row)]=Docu.row { x with blocks:=⟨t,l⟩ })∧(∀ x:Docu,(Docu.row x).map AV.strip=Docu.row x.strip)∧(∀ x:Docu,(Docu.row x).take 1=Docu.row x)∧(∀ x:Docu,(Docu.row x).drop 1=[]):=
 by refine ⟨?_, ?_, ?_, ?_, ?_, ?_, ?_, ?_, ?_, ?_⟩<;>(intros;first | rfl | (simp only [Docu.row];rfl) | (simp only [Docu.row,uu];rfl))
structure Docu.ok (n:Nat) (x:Docu):Prop where
 blocks:x.blocks.ok n (aL.ok n)
theorem Docu.ok.mono{n m:Nat}{x:Docu}(h:x.ok n)(hn:n≤m):x.ok m:=⟨h.blocks.mono hn (fun _ h=>h.mono hn)⟩
theorem Docu.ok.wk{n:Nat}{x:Docu}(h:x.ok n):WkL n x.row x.row:=⟨h.blocks.wk (fun _ h=>h.wk),trivial⟩
structure Brk where
 bef:Str
 aft:Str
 brk:Bool
def Brk.row(x:Brk):List AV:=[.str x.bef,.str x.aft,.bool x.brk]
structure Brk.ok (n:Nat) (x:Brk):Prop where
 bef:x.bef.length≤bN
 aft:x.aft.length≤bN
theorem Brk.ok.mono{n m:Nat}{x:Brk}(h:x.ok n)(hn:n≤m):x.ok m:=⟨h.bef,h.aft⟩
theorem Brk.ok.wk{n:Nat}{x:Brk}(h:x.ok n):WkL n x.row x.row:=⟨wk_str _ _,wk_str _ _,wk_bool _ _,trivial⟩
structure xI where
 block:Int
 pieces:Sl aa
def xI.row(x:xI):List AV:=[.int .i64 x.block,.slice x.pieces.tag 3 (x.pieces.l.map aa.row)]
def xI.strip(x:xI):xI := { x with pieces:=x.pieces.strip }
structure xI.ok (n:Nat) (x:xI):Prop where
 block:I64 x.block
 pieces:x.pieces.ok n (aa.ok n)
theorem xI.ok.mono{n m:Nat}{x:xI}(h:x.ok n)(hn:n≤m):x.ok m:=⟨h.block,h.pieces.mono hn (fun _ h=>h.mono hn)⟩
theorem xI.ok.wk{n:Nat}{x:xI}(h:x.ok n):WkL n x.row x.row:=⟨wk_int _ _ _,h.pieces.wk (fun _ h=>h.wk),trivial⟩
structure Tie where
 src:Int
 tgt:Int
def Tie.row(x:Tie):List AV:=[.int .i64 x.src,.int .i64 x.tgt]
structure Tie.ok (n:Nat) (x:Tie):Prop where
 src:I64 x.src
 tgt:I64 x.tgt
theorem Tie.ok.mono{n m:Nat}{x:Tie}(h:x.ok n)(hn:n≤m):x.ok m:=⟨h.src,h.tgt⟩
theorem Tie.ok.wk{n:Nat}{x:Tie}(h:x.ok n):WkL n x.row x.row:=⟨wk_int _ _ _,wk_int _ _ _,trivial⟩
theorem bt{α:Type}{row:α→List AV}{l:List α}{tag:Tag}{sz:Nat}{k:IntKind}{i:Nat}(h:i<l.length):pC sz (.slice tag sz (l.map row)) (.int k (i:Int))=some (.vptr sz (l.map row) i 0):=
 rias_nat (esz:=0) (by simpa using h)
theorem en{i n:Nat}(h:i<n)(hn:n≤bN):IntKind.i64.wrap ((i:Int)+1)=((i+1:Nat):Int):=by
 rw [eX (by omega) (by simp only [bN] at hn;omega)];rfl
theorem Ex{i:Nat}(h0:0<i)(h:i≤bN):IntKind.i64.wrap ((i:Int)-1)=((i-1:Nat):Int):=by
 simp only [bN] at h;rw [eX (by omega) (by omega)];omega
theorem Hi{α:Type}(row:α→List AV)(l:List α)(i:Nat):(l.map row)[i]?=(l[i]?).map row:=List.getElem?_map ..
def slc{α:Type}(b:Bool)(x y:α):α:=
 match b with
 |true=>x
 |false=>y
theorem bw{α:Type}{b b':Bool}{x y:α}(h:b=b'):sel b x y=sel b' x y:=by rw [h]
theorem aR{α:Type}{b b':Bool}{x x' y y':α}(hb:b=b')(hx:b'=true→x=x')(hy:b'=false→y=y'):slc b x y=slc b' x' y':=by
 subst hb;cases b
 ·exact hy rfl
 ·exact hx rfl
theorem slc_true{α:Type}(x y:α):slc true x y=x:=rfl
theorem slc_false{α:Type}(x y:α):slc false x y=y:=rfl
theorem slc_not{α:Type}(b:Bool)(x y:α):slc (!b) x y=slc b y x:=by cases b<;>rfl
theorem amS :
 (∀ (α:Type) (b:Bool) (x y:α),sel b x y=slc b x y) ∧
 (∀ (α:Type) (x y:α),slc true x y=x)∧(∀ (α:Type) (x y:α),slc false x y=y)∧(∀ (α:Type) (b:Bool) (x y:α),slc (!b) x y=slc b y x) ∧
 (∀ (α:Type) (b:Bool) (x:α),slc b x x=x) ∧
 (∀ (α:Type) (b:Bool) (x y:α),slc b (some x) (some y)=some (slc b x y)) ∧
 (∀ (α β:Type) (b:Bool) (x x':α) (y y':β),slc b (x,y) (x',y')=(slc b x x',slc b y y')) ∧
 (∀ (b:Bool) (v v':AV),slc b (kJ.ret v) (kJ.ret v') = .ret (slc b v v')) ∧
 (∀ (b p q:Bool),slc b (AV.bool p) (AV.bool q) = .bool (slc b p q)) ∧
 (∀ (b:Bool) (k:IntKind) (x y:Int),slc b (AV.int k x) (AV.int k y) = .int k (slc b x y)) ∧
 (∀ (b:Bool) (x y:Str),slc b (AV.str x) (AV.str y) = .str (slc b x y)) ∧
 (∀ (α:Type) (b p:Bool) (x y:α),slc b (slc p x y) y=slc (b&&p) x y) ∧
 (∀ b p:Bool,slc b p false=(b&&p))∧(∀ b p:Bool,slc b true p=(b||p))∧(∀ b p:Bool,slc b p true=(!b||p))∧(∀ b p:Bool,slc b false p=(!b&&p)) ∧
 (∀ (α:Type) (b w:Bool) (v v':AV) (x u:Option α),qC (slc b v v') w x u=slc b (qC v w x u) (qC v' w x u)):=
 ⟨fun _ _ _ _=>rfl,fun _ _ _=>rfl,fun _ _ _=>rfl,fun _=>slc_not,fun _ b _=>by cases b<;>rfl,fun _ b _ _=>by cases b<;>rfl,fun _ _ b _ _ _ _=>by cases b<;>rfl,fun b _ _=>by cases b<;>rfl,fun b _ _=>by cases b<;>rfl,
  fun b _ _ _=>by cases b<;>rfl,fun b _ _=>by cases b<;>rfl,fun _ b p _ _=>by cases b<;>cases p<;>rfl,fun b _=>by cases b<;>rfl,fun b _=>by cases b<;>rfl,fun b _=>by cases b<;>rfl,fun b _=>by cases b<;>rfl,fun _ b _ _ _ _ _=>by cases b<;>rfl⟩
def orE(o:Option AV)(H:List AObj)(x:Option Out):Option Out:=
 match o with
 |some v=>some (.ret v,H)
 |none=>x
def orO{α:Type}(o y:Option α):Option α:=
 match o with
 |some v=>some v
 |none=>y
def sk{α:Type}(F:Nat→α→Option AV):Nat→List α→Option AV
 |_,[]=>none
 |i,x::l=>orO (F i x) (sk F (i+1) l)
theorem Hk(v:AV)(H:List AObj)(x:Option Out):orE (some v) H x=some (.ret v,H):=rfl
theorem Hl(H:List AObj)(x:Option Out):orE none H x=x:=rfl
theorem Ji(b:Bool)(o o':Option AV)(H:List AObj)(x:Option Out):orE (sel b o o') H x=sel b (orE o H x) (orE o' H x):=by cases b<;>rfl
theorem Jj(o o':Option AV)(H:List AObj)(x:Option Out):orE (orO o o') H x=orE o H (orE o' H x):=by cases o<;>rfl
theorem Hm{α:Type}(v:α)(y:Option α):orO (some v) y=some v:=rfl
theorem Hn{α:Type}(y:Option α):orO none y=y:=rfl
theorem Jk{α:Type}(b:Bool)(o o' y:Option α):orO (sel b o o') y=sel b (orO o y) (orO o' y):=by cases b<;>rfl
theorem DB{α:Type}(F:Nat→α→Option AV)(i:Nat):sk F i []=none:=rfl
theorem Ck{α:Type}(F:Nat→α→Option AV)(i:Nat)(x:α)(l:List α):sk F i (x::l)=orO (F i x) (sk F (i+1) l):=rfl
theorem tx{H0 H:List AObj}(h:dg H0 H)(L:List AObj):dg H0 (H++L):=
 ⟨by have:=h.1;simp;omega,fun i x hi hx=>h.2 i x hi (by
  have:=h.1;rwa [List.getElem?_append_left (by omega)] at hx)⟩
theorem FG{H0 H:List AObj}(h:dg H0 H)(L:List AObj):(H++L).take H0.length=H.take H0.length:=
 List.take_append_of_le_length h.1
theorem xJ{sz:Nat}{r:List AV}(h1:r.length=sz)(h2:r.all AV.cell=true):lE sz [r]=true:=by simp [lE,h1,h2]
def uv(pl:Nat→Option (Nat×Nat))(cs:List AV)(rest:List (Nat×AV))(o:Option (Nat×Nat))(c:Option (List AV)):Option (List AV):=
 match o,c with
 |some (off,size),some cells=>if cells.length=size∧off+cells.length≤cs.length then fN pl (bC cs off cells) rest else none
 |_,_=>none
theorem FH(pl:Nat→Option (Nat×Nat))(cs:List AV):fN pl cs []=some cs:=rfl
theorem DC(pl:Nat→Option (Nat×Nat))(cs:List AV)(i:Nat)(v:AV)(rest:List (Nat×AV)):fN pl cs ((i,v)::rest)=uv pl cs rest (pl i) (cG v):=by
 rfl
theorem Cm(pl:Nat→Option (Nat×Nat))(cs:List AV)(rest:List (Nat×AV))(off size:Nat)(cells:List AV)(h1:cells.length=size)(h2:off+size≤cs.length):uv pl cs rest (some (off,size)) (some cells)=fN pl (bC cs off cells) rest:=by
 subst h1;rw [uv];exact if_pos ⟨rfl,h2⟩
theorem LR(f:Nat×RX→Nat×AV):List.map f []=[]:=rfl
theorem LS(f:Nat×RX→Nat×AV)(x:Nat×RX)(l:List (Nat×RX)):List.map f (x::l)=f x::List.map f l:=rfl
theorem amF :
 (∀ (pl:Nat→Option (Nat×Nat)) (cs:List AV),fN pl cs []=some cs) ∧
 (∀ (pl:Nat→Option (Nat×Nat)) (cs:List AV) (i:Nat) (v:AV) (rest:List (Nat×AV)),fN pl cs ((i,v)::rest)=uv pl cs rest (pl i) (cG v)) ∧
 (∀ (pl:Nat→Option (Nat×Nat)) (cs:List AV) (rest:List (Nat×AV)) (off size:Nat) (cells:List AV),cells.length=size→off+size≤cs.length→uv pl cs rest (some (off,size)) (some cells)=fN pl (bC cs off cells) rest) ∧
 (∀ (f:Nat×RX→Nat×AV),List.map f []=[]) ∧
 (∀ (f:Nat×RX→Nat×AV) (x:Nat×RX) (l:List (Nat×RX)),List.map f (x::l)=f x::List.map f l) ∧
 (∀ (z:List AV),qe 0 z=[]) ∧
 (∀ (n:Nat) (z:List AV),qe (n+1) z=z++qe n z) ∧
 (∀ (n:Nat) (cs:List AV),nS n 0 cs=[]) ∧
 (∀ (n k:Nat) (cs:List AV),nS n (k+1) cs=cs.take n::nS n k (cs.drop n)) ∧
 (∀ (l:List AV),l.take 0=[])∧(∀ (n:Nat) (x:AV) (l:List AV),(x::l).take (n+1)=x::l.take n) ∧
 (∀ (l:List AV),l.drop 0=l)∧(∀ (n:Nat) (x:AV) (l:List AV),(x::l).drop (n+1)=l.drop n) ∧
 (∀ (s:Str),AV.strip (.str s) = .str s)∧(∀ (k:IntKind) (n:Int),AV.strip (.int k n) = .int k n)∧(∀ (b:Bool),AV.strip (.bool b) = .bool b)∧(∀ (f:Fn) (x y:List AV),AV.strip (.fn f x y) = .fn f x y) ∧
 (∀ (t n:Nat) (r:List (List AV)),AV.strip (.slice (.own t) n r) = .slice .any n r)∧(∀ (n:Nat) (r:List (List AV)),AV.strip (.slice .any n r) = .slice .any n r)∧(∀ (n:Nat) (r:List (List AV)),AV.strip (.slice .nil n r) = .slice .nil n r)∧(∀ (n:Nat) (r:List (List AV)),AV.strip (.slice .full n r) = .slice .full n r) ∧
 (∀ (f:AV→AV),List.map f []=[])∧(∀ (f:AV→AV) (x:AV) (l:List AV),List.map f (x::l)=f x::List.map f l) ∧
 (∀ (x:Nat×Nat) (l:List (Nat×Nat)),(x::l)[0]?=some x)∧(∀ (x:Nat×Nat) (l:List (Nat×Nat)) (n:Nat),(x::l)[n+1]?=l[n]?):=
 ⟨FH,DC,Cm,LR,LS,fun _=>rfl,fun _ _=>rfl,fun _ _=>rfl,fun _ _ _=>rfl,fun _=>rfl,fun _ _ _=>rfl,fun _=>rfl,fun _ _ _=>rfl,fun _=>rfl,fun _ _=>rfl,fun _=>rfl,fun _ _ _=>rfl,fun _ _ _=>rfl,fun _ _=>rfl,fun _ _=>rfl,fun _ _=>rfl,fun _=>rfl,fun _ _ _=>rfl,fun _ _=>rfl,fun _ _ _=>rfl⟩
theorem amL :
 (∀ (v:AV) (H:List AObj) (x:Option Out),orE (some v) H x=some (.ret v,H)) ∧
 (∀ (H:List AObj) (x:Option Out),orE none H x=x) ∧
 (∀ (b:Bool) (o o':Option AV) (H:List AObj) (x:Option Out),orE (slc b o o') H x=slc b (orE o H x) (orE o' H x)) ∧
 (∀ (o o':Option AV) (H:List AObj) (x:Option Out),orE (orO o o') H x=orE o H (orE o' H x)) ∧
 (∀ (v:AV) (y:Option AV),orO (some v) y=some v) ∧
 (∀ (y:Option AV),orO none y=y) ∧
 (∀ (b:Bool) (o o' y:Option AV),orO (slc b o o') y=slc b (orO o y) (orO o' y)) ∧
 (∀ (α:Type) (F:Nat→α→Option AV) (i:Nat),sk F i []=none) ∧
 (∀ (α:Type) (F:Nat→α→Option AV) (i:Nat) (x:α) (l:List α),sk F i (x::l)=orO (F i x) (sk F (i+1) l)) ∧
 (∀ (α:Type) (l:List α) (row:α→List AV),(l.map row).length=l.length) ∧
 (∀ (α:Type) (row:α→List AV) (l:List α) (i:Nat),(l.map row)[i]?=(l[i]?).map row) ∧
 (∀ (α:Type) (f:α→List AV) (x:α),(some x).map f=some (f x)) ∧
 (∀ (H0 H:List AObj),dg H0 H→∀ (L:List AObj),dg H0 (H++L)) ∧
 (∀ (H0 H:List AObj),dg H0 H→∀ (L:List AObj),(H++L).take H0.length=H.take H0.length):=
 ⟨Hk,Hl,Ji,Jj,Hm,Hn,Jk,fun _=>DB,fun _=>Ck,fun _ l row=>List.length_map ..,fun _ row l i=>Hi row l i,fun _ _ _=>rfl,fun _ _=>tx,fun _ _=>FG⟩
def amA{E:bc}(M:bM b4 E):=And.intro (am1 M) (And.intro am2 (And.intro am3 (And.intro am4 (And.intro am5 (And.intro amL amS)))))
def amB:=And.intro @beq_true (And.intro @beq_false (And.intro @decide_true (And.intro @decide_false (And.intro and_true (And.intro true_and (And.intro Bool.and_true (And.intro Bool.true_and (And.intro Bool.and_false (And.intro Bool.false_and (And.intro Bool.or_false (And.intro Bool.false_or (And.intro Bool.or_true (And.intro Bool.true_or (And.intro Bool.false_eq_true
 (And.intro @if_false.{1} (And.intro @if_true.{1} (And.intro Bool.not_true (And.intro Bool.not_false (And.intro Nat.le_add_right (And.intro @Nat.le_add_right_of_le (And.intro @Option.map_some.{0,0} (And.intro @Option.map_none.{0,0} (And.intro @List.nil_append.{0} (And.intro @List.append_nil.{0} (And.intro @List.map_nil.{0,0} @rias_nat)))))))))))))))))))))))))
def amC{E:bc}(M:bM b4 E):=And.intro (amA M) amB
def amD:=And.intro @slc_true (And.intro @slc_false (And.intro @slc_not @fget_at))
def amG:=And.intro amF (And.intro setRow_nil (And.intro setRow_cons (And.intro @List.set_cons_zero.{0} (And.intro @List.length_cons.{0} (And.intro @List.length_nil.{0} (And.intro Nat.zero_add (And.intro Nat.le_refl (And.intro @List.all_cons.{0} (And.intro @List.all_nil.{0} @List.cons_append.{0})))))))))
end
section
open Go.ChangeShapes Go.WideShapes
structure VL (K:aj) (row:List AV) (cs:List Value):Prop where
 len:row.length=cs.length
 at_:∀ (i:Nat) (av:AV),row[i]?=some av→V K av (cs.getD i undef)
theorem VL.nil(K:aj):VL K [] []:=⟨rfl,fun i av h=>by simp at h⟩
theorem VL.one{K:aj}{a:AV}{v:Value}(h:V K a v):VL K [a] [v]:=⟨rfl,fun i av hi=>by
 cases i with
 |zero=>obtain rfl:a=av:=by simpa using hi
        simpa using h
 |succ i=>simp at hi⟩
theorem VL.append{K:aj}{a b:List AV}{c d:List Value}(h:VL K a c)(h':VL K b d):VL K (a++b) (c++d):=⟨by simp [h.len,h'.len],fun i av hi=>by
 have e:=h.len
 by_cases hl:i<a.length
 ·rw [List.getElem?_append_left hl] at hi
  have:=h.at_ i av hi;rwa [List.getD_eq_getElem?_getD,List.getElem?_append_left (by omega),← List.getD_eq_getElem?_getD]
 ·rw [List.getElem?_append_right (by omega)] at hi
  have:=h'.at_ _ av hi;rwa [List.getD_eq_getElem?_getD,List.getElem?_append_right (by omega),← e,← List.getD_eq_getElem?_getD]⟩
theorem VL.vs{K:aj}{row:List AV}{cs:Array Value}(h:VL K row cs.toList):Vs K row cs:=⟨by simpa using h.len,fun i av hi=>by simpa [Array.getD_eq_getD_getElem?] using h.at_ i av hi⟩
theorem VL.agg{K:aj}{row:List AV}{cs:Array Value}(h:VL K row cs.toList):V K (.agg row) (.agg cs):=.agg _ _ h.vs.size h.vs.at_
section
variable(P:Program)(W:World)(G:Nat→Option (List AV))
def ln(t:TypeId){α:Type}(row:α→List AV)(ok:α→Prop):Prop:=
 ∀ (H:Type) (enc:TypeId×Value→H) (spare:Nat→Bool) (fuel:Nat) (cs:List Value) (x:DataW H×List MemPlace),DataW.trod enc P W 0 spare true fuel t cs=some x→(∀ n∈DataW.weights P t x.1,n≤reachBytes)→∃ a,ok a∧VL (aj.start W G) (row a) cs
def A3(fl:List (Nat×TypeId))(off w:Nat){α:Type}(row:α→List AV)(ok:α→Prop):Prop:=
 ∀ (H:Type) (enc:TypeId×Value→H) (spare:Nat→Bool) (fuel:Nat) (cs:List Value),
  (∀ (i:Nat) (f:Nat×TypeId),fl[i]?=some f→∃ x,DataW.trod enc P W 0 spare true fuel f.2 ((cs.drop f.1).take (P.cellsOf f.2))=some x∧∀ n∈DataW.weights P f.2 x.1,n≤reachBytes)→cs.length=off+w→∃ a,ok a∧VL (aj.start W G) (row a) (cs.drop off)
def fieldsOf(t:TypeId):Option (List (Nat×TypeId)):=
 match P.underlying t with
 |some (.struct fs)=>some (fs.toList.map fun f=>(f.offset,f.type))
 |_=>none
end
section
variable{P:Program}{W:World}{G:Nat→Option (List AV)}
theorem FI{t:TypeId}(ht:P.underlying t=some .string):ln P W G t bK (fun s=>s.length≤bN):=fun H enc spare fuel cs x h hw=>by
 obtain ⟨s,rfl,rfl,hs⟩:=DataW.trod_string ht h;exact ⟨s.data.toList,by simpa [reachBytes] using hw s.data.toList.length (by simp [DataW.weights]),VL.one (.str _)⟩
theorem Ey{t:TypeId}{k:IntKind}(ht:P.underlying t=some (.int k)):ln P W G t (fun n:Int=>[.int k n]) (fun n=>k.min≤n∧n≤k.max):=fun H enc spare fuel cs x h _=>by
 obtain ⟨n,rfl,_,hn⟩:=DataW.trod_int ht h;exact ⟨n,by simpa [Lit.wf,IntKind.has] using hn,VL.one (.int _ _)⟩
theorem DD{t:TypeId}(ht:P.underlying t=some .bool):ln P W G t (fun b:Bool=>[.bool b]) (fun _=>True):=fun H enc spare fuel cs x h _=>by
 obtain ⟨n,rfl,_⟩:=DataW.trod_bool ht h;exact ⟨n,trivial,VL.one (.bool _)⟩
theorem sm(off:Nat):A3 P W G [] off 0 (fun _:Unit=>[]) (fun _=>True):=fun H enc spare fuel cs _ hl=>⟨(),trivial,by
 rw [List.drop_of_length_le (by omega)];exact VL.nil _⟩
theorem jS{t:TypeId}{fl:List (Nat×TypeId)}{off w1 w2:Nat}{α β:Type}{row1:α→List AV}{row2:β→List AV}{ok1:α→Prop}{ok2:β→Prop}
  (h1:ln P W G t row1 ok1) (hw:P.cellsOf t=w1) (h2:A3 P W G fl (off+w1) w2 row2 ok2):A3 P W G ((off,t)::fl) off (w1+w2) (fun a:α×β=>row1 a.1++row2 a.2) (fun a=>ok1 a.1∧ok2 a.2):=fun H enc spare fuel cs hf hl=>by
 obtain ⟨x,hx,hxw⟩:=hf 0 (off,t) rfl;obtain ⟨a,ha,va⟩:=h1 H enc spare fuel _ x hx hxw;obtain ⟨b,hb,vb⟩:=h2 H enc spare fuel cs (fun i f hi=>hf (i+1) f (by simpa using hi)) (by omega);refine ⟨(a,b),⟨ha,hb⟩, ?_⟩;have:=va.append vb;simp only [hw] at this;have e:(cs.drop off).take w1++cs.drop (off+w1)=cs.drop off:=by rw [← List.drop_drop,List.take_append_drop]
 rwa [e] at this
theorem oQ{t:TypeId}{fl:List (Nat×TypeId)}{w:Nat}{α S:Type}{row:α→List AV}{ok:α→Prop}{rowS:S→List AV}{okS:S→Prop}(hf:fieldsOf P t=some fl)(hw:P.cellsOf t=w)
  (h:A3 P W G fl 0 w row ok) (φ:α→S) (hr:∀ a,rowS (φ a)=row a) (ho:∀ a,ok a→okS (φ a)):ln P W G t rowS okS:=fun H enc spare fuel cs x hx hw0=>by
 unfold fieldsOf at hf;split at hf
 ·rename_i fs ht
  simp only [Option.some.injEq] at hf;subst hf;obtain ⟨xs,n,_,rfl,hl,hxl,hat⟩:=DataW.trod_struct ht hx
  obtain ⟨a,ha,va⟩:=h H enc spare n cs (fun i f hi=>by
   rw [List.getElem?_map] at hi;cases hfi:fs.toList[i]? with
   |none=>rw [hfi] at hi;cases hi
   |some g=>
    rw [hfi] at hi;obtain rfl:(g.offset,g.type)=f:=by simpa using hi
    have hg:fs[i]?=some g:=by simpa using hfi
    have:=hat i g hg;have hlt:i<xs.length:=by rw [hxl];exact (Array.getElem?_eq_some_iff.1 hg).1
    rw [List.getElem?_eq_getElem hlt] at this;refine ⟨_,this,fun n hn=>hw0 n ?_⟩;simp only [DataW.weights,ht];exact DataW.weights_mem_each (j:=i) (t:=g.type) (d:=xs[i].1) (by simp [hfi]) (by simp [List.getElem?_eq_getElem hlt]) n hn) (by omega)
  exact ⟨φ a,ho a ha,by rw [hr];simpa using va⟩
 ·cases hf
theorem Ez{α:Type}{p:Nat→α→Prop}:∀ (n:Nat),(∀ i,i<n→∃ a,p i a)→∃ l:List α,l.length=n∧∀ i a,l[i]?=some a→p i a
 |0,_=>⟨[],rfl,fun i a h=>by simp at h⟩
 |n+1,h=>by
  obtain ⟨l,h1,h2⟩:=Ez n (fun i hi=>h i (by omega));obtain ⟨a,ha⟩:=h n (by omega);refine ⟨l++[a],by simp [h1],fun i b hi => ?_⟩
  by_cases hl:i<l.length
  ·rw [List.getElem?_append_left hl] at hi;exact h2 i b hi
  ·rw [List.getElem?_append_right (by omega)] at hi
   have:i-l.length=0:=by
    cases hq:i-l.length with
    |zero=>rfl
    |succ k=>rw [hq] at hi;simp at hi
   rw [this] at hi;obtain rfl:a=b:=by simpa using hi
   have:i=n:=by omega
   subst this;exact ha
theorem EA{n:Nat}(h:Nat.blt 0 n=true):0<n:=by rwa [Nat.blt_eq] at h
theorem xK{H:Type}{P:Program}{e:TypeId}{n:Nat}:∀ {l:List (DataW H)}{d:DataW H},d∈l→n∈DataW.weights P e d→n∈DataW.weightsAll P e l
 |x::l,d,hd,hn=>by
  simp only [DataW.weightsAll,List.mem_append];rcases List.mem_cons.1 hd with rfl | h
  ·exact .inl hn
  ·exact .inr (xK h hn)
theorem A4{t e:TypeId}{α:Type}{row:α→List AV}{ok:α→Prop}{sz:Nat}(ht:P.underlying t=some (.slice e))(hsz:P.cellsOf e=sz)(hpos:0<sz)(hby:0<P.bytesOf e)(hrow:∀ a,(row a).length=sz)(he:ln P W G e row ok) :
  ln P W G t (fun s:Sl α=>[.slice s.tag sz (s.l.map row)]) (fun s=>s.ok 0 ok∧(s.tag = .nil∧s.l=[]∨s.tag = .some)):=fun H enc spare fuel cs x h hw0=>by
 rcases Go.Deep.open_slice ht h with ⟨rfl,_⟩ | ⟨a,len,cap,m,n,D,Pl,rfl,hb,hl,hcap,hm,rfl,hel⟩
 ·exact ⟨⟨.nil,[]⟩,⟨⟨trivial,by simp,fun x hx=>by cases hx⟩,.inl ⟨rfl,rfl⟩⟩,VL.one (.slice0 _ _ _ (by simp))⟩
 ·rw [hsz] at hel
  have hlm:len≤m:=by rw [hm];split<;>omega
  have hww:∀ i,i<m→∀ n∈DataW.weights P e (D i),n≤reachBytes:=fun i hi n hn=>hw0 n (by
   simp only [DataW.weights,ht,List.mem_cons,List.mem_append];right
   by_cases hlt:i<len
   ·left;exact xK (List.mem_map.2 ⟨i,List.mem_range.2 hlt,rfl⟩) hn
   ·right;exact xK (List.mem_map.2 ⟨i-len,List.mem_range.2 (by omega),by rw [show len+(i-len)=i by omega]⟩) hn)
  have hlb:len≤reachBytes:=by
   have:=hw0 ((((List.range len).map D).length+((List.range (m-len)).map fun j=>D (len+j)).length)*P.bytesOf e) (by simp only [DataW.weights,ht];exact List.mem_cons_self);simp only [List.length_map,List.length_range] at this;have h2:len*1≤(len+(m-len))*P.bytesOf e:=Nat.mul_le_mul (by omega) hby;omega
  obtain ⟨l,hll,hat⟩:=Ez (α:=α) (p:=fun i a'=>ok a'∧∃ cs',W.cells? 0 (a.add (i*sz)) sz=some cs'∧VL (aj.start W G) (row a') cs') len (fun i hi=>by
   obtain ⟨cs',h1,h2⟩:=hel i (by omega);obtain ⟨a',h3,h4⟩:=he H enc spare n cs' _ h2 (hww i (by omega));exact ⟨a',h3,cs',h1,h4⟩)
  refine ⟨⟨.some,l⟩,⟨⟨trivial,by rw [hll];exact hlb,fun x hx => ?_⟩,.inr rfl⟩,VL.one ?_⟩
  ·obtain ⟨i,hi⟩:=List.getElem?_of_mem hx
   exact (hat i x hi).1
  ·obtain ⟨b,o,spot⟩:=a
   cases l with
   |nil=>
    have:len=0:=by simpa using hll.symm
    subst this;exact .sliceAny .some _ _ _ (.inr ⟨rfl,by simp⟩)
   |cons a0 l0=>
    obtain ⟨_,cs0,hc0,hv0⟩:=hat 0 a0 rfl;obtain ⟨_,hcl,hcat⟩:=World.cells?_some hc0
    have hsp:spot=none:=by
     have h0:=hcat 0 hpos;rw [List.getElem?_eq_getElem (by omega)] at h0;simpa [Addr.add] using World.cell?_spot h0
    subst hsp;have hlen:len=((a0::l0).map row).length:=by simpa using hll.symm
    rw [hlen]
    have key:∀ (i:Nat) (r:List AV),((a0::l0).map row)[i]?=some r→∃ cs',VL (aj.start W G) r cs'∧∀ j,j<sz→W.cell? ⟨b,o+i*sz+j,none⟩=cs'[j]? := fun i r hi=>by
     rw [List.getElem?_map] at hi;cases hai:(a0::l0)[i]? with
     |none=>rw [hai] at hi;cases hi
     |some ai=>
      rw [hai] at hi;obtain rfl:row ai=r:=by simpa using hi
      obtain ⟨_,cs',hc,hv⟩:=hat i ai hai;obtain ⟨_,hcl',hcat'⟩:=World.cells?_some hc;refine ⟨cs',hv,fun j hj => ?_⟩;rw [← hcat' j hj];congr 1;unfold Addr.add
      by_cases h1:i*sz=0<;>by_cases h2:j=0<;>simp [h1,h2,Nat.add_assoc]
    refine .slice .some sz _ b o cap (fun i j=>(W.cell? ⟨b,o+i*sz+j,none⟩).getD undef) (fun r hr => ?_) (fun i j r av hi hj => ?_) (fun i j r av hi hj => ?_) (by rw [← hlen];exact hl) trivial
    ·obtain ⟨a',_,rfl⟩:=List.mem_map.1 hr
     exact hrow a'
    ·obtain ⟨cs',hv,hc⟩:=key i r hi
     have hjl:j<r.length:=(List.getElem?_eq_some_iff.1 hj).1
     have hrl:r.length=sz:=by
      obtain ⟨a',_,rfl⟩:=List.mem_map.1 (List.mem_of_getElem? hi);exact hrow a'
     show W.cell? _=_;have hcj:=hc j (by omega);rw [hcj,List.getElem?_eq_getElem (by rw [← hv.len];omega)];rfl
    ·obtain ⟨cs',hv,hc⟩:=key i r hi
     have hjl:j<r.length:=(List.getElem?_eq_some_iff.1 hj).1
     have hrl:r.length=sz:=by
      obtain ⟨a',_,rfl⟩:=List.mem_map.1 (List.mem_of_getElem? hi);exact hrow a'
     have:=hv.at_ j av hj;rw [hc j (by omega),← List.getD_eq_getElem?_getD];exact this
theorem DE{t:TypeId}{α:Type}{row:α→List AV}{ok ok':α→Prop}(h:ln P W G t row ok)(hm:∀ a,ok a→ok' a):ln P W G t row ok':=fun H enc spare fuel cs x hh hw=>
 let ⟨a,h1,h2⟩:=h H enc spare fuel cs x hh hw;⟨a,hm a h1,h2⟩
theorem vh{t e:TypeId}{α:Type}{row:α→List AV}{ok:α→Prop}{sz:Nat}(ht:P.underlying t=some (.slice e))(hsz:P.cellsOf e=sz)(hpos:0<sz)(hby:0<P.bytesOf e)(hrow:∀ a,(row a).length=sz)(he:ln P W G e row ok) :
  ln P W G t (fun s:Sl α=>[.slice s.tag sz (s.l.map row)]) (fun s=>s.ok 0 ok):=DE (A4 ht hsz hpos hby hrow he) fun _ h=>h.1
theorem EB{t:TypeId}{fl:List (Nat×TypeId)}{r:Reach}{b:Nat}{v:Value}(hf:fieldsOf P t=some fl)(h:Value.okWide P W r b t v):∃ cs,v = .agg cs:=by
 unfold fieldsOf at hf;split at hf
 ·rename_i fs ht
  simp only [Value.okWide,ht] at h;obtain ⟨cs,rfl,_⟩:=h;exact ⟨cs,rfl⟩
 ·cases hf
theorem Cn{H:Type}{enc:TypeId×Value→H}{spare:Nat→Bool}{t:TypeId}{α:Type}{row:α→List AV}{ok:α→Prop}(ho:ln P W G t row ok){v:Value}{d:DataW H}{ps:List MemPlace}
  (h:DataW.Trod enc P W 0 spare true t v d ps) (hw:∀ n∈DataW.weights P t d,n≤reachBytes):∃ a,ok a∧VL (aj.start W G) (row a) v.cells.toList:=by
 obtain ⟨fuel,hf⟩:=h;exact ho H enc spare fuel _ _ hf hw
end
end
def eo:FuncId:=5
def fv:FuncId:=6
def cH:FuncId:=7
def Co:FuncId:=8
def bP:FuncId:=10
def bZ:FuncId:=12
def eS:FuncId:=13
def gK:FuncId:=15
def fw:FuncId:=16
def oR:FuncId:=17
def gL:FuncId:=18
def mb:FuncId:=19
def fg:FuncId:=20
def nr:FuncId:=21
def iG:FuncId:=22
def bq:FuncId:=23
def du:FuncId:=24
def dv:FuncId:=25
def yT:FuncId:=26
def DF:FuncId:=27
def tz:FuncId:=28
def xL:FuncId:=29
def qF:FuncId:=30
def yU:FuncId:=31
def ed:FuncId:=32
def od:FuncId:=33
def gF:FuncId:=34
def mL:FuncId:=35
def bf:FuncId:=36
def nD:FuncId:=37
def bU:FuncId:=38
def eY:FuncId:=39
def gM:FuncId:=40
def iH:FuncId:=41
def kY:FuncId:=42
def fx:FuncId:=43
def fO:FuncId:=44
def fB:FuncId:=45
def gN:FuncId:=46
def fP:FuncId:=47
def oS:FuncId:=48
def gO:FuncId:=49
def oT:FuncId:=50
def sn:FuncId:=51
def fQ:FuncId:=52
def bD:FuncId:=53
def fC:FuncId:=54
def dq:FuncId:=55
def vv:FuncId:=56
def yV:FuncId:=57
def A5:FuncId:=58
def DG:FuncId:=59
def oU:FuncId:=60
def jl:FuncId:=61
def kO:FuncId:=62
def tA:FuncId:=63
def vi:FuncId:=64
def vw:FuncId:=65
def tB:FuncId:=66
def xM:FuncId:=67
def kj:FuncId:=68
def yW:FuncId:=69
def bV:FuncId:=70
def lF:FuncId:=71
def cJ:FuncId:=72
def so:FuncId:=73
def jr:FuncId:=74
def rF:FuncId:=75
def fh:FuncId:=76
def dG:FuncId:=77
def fR:FuncId:=78
def iI:FuncId:=79
def iJ:FuncId:=80
def bO:FuncId:=81
def mM:FuncId:=82
def oV:FuncId:=83
def gP:FuncId:=84
def iK:FuncId:=85
def A6:FuncId:=86
def iL:FuncId:=87
def uw:FuncId:=88
def mN:FuncId:=89
def tC:FuncId:=90
def gb:FuncId:=91
def A7:FuncId:=92
def mO:FuncId:=93
def jI:FuncId:=94
def km:FuncId:=95
def nu:FuncId:=96
def yX:FuncId:=97
def sq:FuncId:=98
def lq:FuncId:=99
def kP:FuncId:=100
def cF:FuncId:=101
def gQ:FuncId:=102
def fm:FuncId:=103
def A8:FuncId:=104
def vx:FuncId:=105
def dh:FuncId:=106
def vy:FuncId:=107
def yY:FuncId:=108
def jm:FuncId:=109
def gp:FuncId:=110
def dw:FuncId:=111
def lZ:FuncId:=112
def mg:FuncId:=113
def oW:FuncId:=114
def mh:FuncId:=115
def kn:FuncId:=116
def ko:FuncId:=117
def iM:FuncId:=118
def bh:FuncId:=119
def cQ:FuncId:=120
def xN:FuncId:=121
def xO:FuncId:=122
def xP:FuncId:=123
def xQ:FuncId:=124
def xR:FuncId:=125
def xS:FuncId:=126
def iN:FuncId:=127
def A9:FuncId:=128
def yZ:FuncId:=129
def mP:FuncId:=130
def gR:FuncId:=131
def Ba:FuncId:=132
def oX:FuncId:=133
def vz:FuncId:=134
def jA:FuncId:=135
def kD:FuncId:=136
def cK:FuncId:=137
def eb:FuncId:=138
def eZ:FuncId:=139
def gS:FuncId:=140
def l5:FuncId:=141
def nE:FuncId:=142
def fD:FuncId:=145
def vj:FuncId:=146
def rG:FuncId:=147
def dH:FuncId:=148
def b3:FuncId:=149
def lG:FuncId:=150
def bQ:FuncId:=151
def jU:FuncId:=152
def jJ:FuncId:=157
def lr:FuncId:=158
def rH:FuncId:=159
def jB:FuncId:=160
def cR:FuncId:=167
def bL:FuncId:=211
def lH:FuncId:=213
def kp:FuncId:=214
def b7:FuncId:=215
def KQ:TypeId:=1
def LU:TypeId:=3
def Bb:TypeId:=4
def dk:TypeId:=5
def aO:TypeId:=9
def Jl:TypeId:=21
def a8:TypeId:=22
def kq:TypeId:=35
def ah:TypeId:=37
def lI:TypeId:=43
def ae:TypeId:=45
def Cp:TypeId:=51
def Cq:TypeId:=55
def z6:TypeId:=60
def aq:TypeId:=66
def eO:TypeId:=80
def b8:TypeId:=82
def lJ:TypeId:=86
def aV:TypeId:=88
def xU:TypeId:=89
def di:TypeId:=108
def ux:TypeId:=129
def qG:TypeId:=133
def xV:TypeId:=134
def vA:TypeId:=137
def jC:TypeId:=139
def kQ:TypeId:=143
def qH:TypeId:=145
def mj:TypeId:=147
def mQ:TypeId:=159
def jK:TypeId:=178
def nv:TypeId:=183
def kr:TypeId:=213
def ml:TypeId:=215
def oY:TypeId:=217
def nF:TypeId:=218
def aT:TypeId:=221
def aZ:TypeId:=222
section
open Sh
def ep:AC:=
 (Q (O [o 2 (.bx ah (t 0)),o 3 (.bx ah (t 1)),mc 4 F]) (Q (Q (Q (O [la 9 1 2,k1 10 fw 9,m 11 10,h 12 11 (.ld (some 1) (t 3)),⟨(some
 13),(some (11,false)),(.call (.c (.fn (.func fw) [] [])) [(.t 12)])⟩,pt 14 11 13]) (Y [2,3,14])) (C 14 (Q (O [k 15 (f cH) [],m 4 15]) R)
 X)) (Q (Q (O [la 17 1 2,k1 18 oR 17,m 16 18,ex 19 16 0,ex 20 16 1,m 5 19,m 6 20]) (Y [2,3,5,6])) (Q (Q (O [la 22 1 2,k1 23 gL 22,m 21 23,ex
 24 21 0,ex 25 21 1,m 7 24,m 8 25]) (Y [2,3,5,6,7,8])) (Q (Q (D [W (la 26 1 2),W (la 28 1 2),K (k1 27 mb 26),K (k1 29 fg 28),P (ar 30 .eql 27
 29),Pm 31 30,P (g 32 31 (.mv (t 5))),P (g 33 31 (.mv (t 7))),P (g 34 31 (.ar .eql (t 32) (t 33))),P (pf 35 31 34),Pm 36 35,P (g 37 36 (.mv (t 6))),P (g 38 36 (.mv (t 8))),P
 (g 39 36 (.ar .eql (t 37) (t 38))),P (pf 40 36 39),Pm 41 40,W (g 42 41 (.ld (some 1) (t 2))),W (g 43 41 (.ld (some 1) (t 3))),W (g 45 41 (.ld (some 1) (t 2))),W (g 46 41 (.ld
 (some 1) (t 3))),K (⟨(some 44),(some (41,true)),(.call (.c (.fn (.func nr) [] [])) [(.t 42),(.t 43)])⟩),K (⟨(some 47),(some (41,true)),(.call (.c (.fn (.func
 iG) [] [])) [(.t 45),(.t 46)])⟩),P (g 48 41 (.eq false .bool (t 44) (t 47))),P (pf 49 41 48),Pm 50 49,W (g 51 50 (.ld (some 1) (t 2))),W (g 52 50 (.ld (some
 1) (t 2))),K (⟨(some 53),(some (50,true)),(.call (.c (.fn (.func nr) [] [])) [(.t 51),(.t 52)])⟩),P (pf 54 50 53),Pm 55 54,K (⟨(some 56),(some (55,true)),(.call
 (.c (.fn (.func cH) [] [])) [])⟩),P (pf 57 55 56),Pm 4 57]) (Y [4])) R)))))
def er:AFn:=⟨ep,58,[.t 4],.drop,[],none⟩
theorem eu:qf er [.t 4] .drop:=⟨rfl,rfl,rfl⟩
def cZ:AC:=
 (Q (Q (Q (O [m 19 5,m 20 0,m 21 4,ia 22 1 20 21,ld 23 22,ls 24 23,bl 25 19 24,m 26 25,g 27 26 (.mv (t 3)),g 28 26 (.ar .lss (t 27) (i 5000)),pf 29 26 28]) (Y [0,3,4,5,
 29])) (C 29 X (.exit 2))) (Q (.block 3 (Q (O [m 32 3,m 33 0,m 34 4,ia 35 1 33 34,ld 36 35,m 37 5,ia 38 3 36 37,fa 39 1 38,ld 40 39,lt 41 40,ar 42 .add 32 41,m 3 42]) (Y
 [0,3,4,5]))) (ic 30 5 31)))
def dI:AC:=
 (Q (Q (Q (O [m 6 4,m 7 0,ls 8 7,bl 9 6 8]) (Y [0,3,4,9])) (C 9 X (.exit 0))) (Q (Q (.block 1 (Q (Q (O [m 12 3,m 13 0,m 14 4,ia 15 1 13 14,ld 16 15,ls 17 16,ar 18 .add 12
 17,m 3 18]) (Y [0,3,4])) (Q (O [mc 5 (i 0)]) (Q (.block 2 (lo [0,3,4,5] cZ)) (Y [0,3,4]))))) (Y [0,3,4])) (ic 10 4 11)))
def iO:AC:=
 (Q (O [mc 2 F]) (Q (O [mc 3 (i 0)]) (Q (Q (O [mc 4 (i 0)]) (Q (.block 0 (lo [0,3,4] dI)) (Y [3]))) (Q (O [m 43 3,ac 44 .gtr 43 (i 2500),m 2 44]) R))))
def cS:AFn:=⟨iO,45,[.t 2],.drop,[],none⟩
theorem dx:qf cS [.t 2] .drop:=⟨rfl,rfl,rfl⟩
def bX:AC:=
 (Q (Q (Q (O [m 11 5,m 12 0,ls 13 12,bl 14 11 13]) (Y [0,1,5,14])) (C 14 X (.exit 0))) (Q (.block 1 (Q (Q (D [Pm 17 0,Pm 18 5,P (ia 19 3 17 18),W (la 20 3 19),Pm 21 1,Pm
 22 5,P (ia 23 3 21 22),W (la 24 3 23),P (o 25 (.eq true (.st [(0,(.int .u8)),(1,.str),(2,.bool)]) (t 20) (t 24)))]) (Y [0,1,5,25])) (C 25 (rt 4 F) X))) (ic 15 5 16)))
def bR:AC:=
 (Q (O [mc 4 F]) (Q (Q (Q (O [m 6 0,ls 7 6,m 8 1,ls 9 8,ar 10 .neq 7 9]) (Y [0,1,10])) (C 10 (rt 4 F) X)) (Q (Q (O [mc 5 (i 0)]) (Q (.block 0 (lo [0,1,5]
 bX)) (Y []))) (rt 4 T))))
def b9:AFn:=⟨bR,26,[.t 4],.drop,[],none⟩
theorem ca:qf b9 [.t 4] .drop:=⟨rfl,rfl,rfl⟩
def bg:AC:=
 (Q (O [bl 13 12 11]) (Q (C 13 X (.exit 0)) (Q (.block 1 (Q (Q (O [m 14 12,ia 15 3 10 12,la 16 3 15,o 6 (.nw [(.int .u8 0),(.str []),(.bool false)] ae),m 5 14,n (.st
 3 (t 6) (t 16))]) (Y [0,3,4,5,6,10,11,12])) (Q (.block 2 (Q (Q (Q (O [fa 18 0 6,ld 19 18,ac 20 .lss 19 (u 1),m 21 20,h 22 21 (.fa 0 (t 6)),h 23 21 (.ld none (t 22)),h
 24 21 (.ar .gtr (t 23) (u 5)),pt 25 21 24,m 17 25]) (Y [0,3,4,5,6,10,11,12,17])) (C 17 X (Q (O [fa 26 2 6,ld 27 26,m 28 27,g 29 28 (.fa 0 (t 6)),g 30 28 (.ld none (t
 29)),g 31 28 (.ar .neq (t 30) (u 2)),pf 32 28 31,m 33 32,g 34 33 (.fa 0 (t 6)),g 35 33 (.ld none (t 34)),g 36 33 (.ar .neq (t 35) (u 3)),pf 37 33 36,m 17 37]) (Y [0,3,4,
 5,6,10,11,12,17])))) (C 17 (rt 2 (u 1)) (Q (Q (O [fa 39 0 6,ld 40 39,ac 41 .eql 40 (u 1),m 42 41,g 43 42 (.fa 1 (t 6)),g 44 42 (.ld none (t 43)),g 45 42 (.ar .eql (t 44)
 (s [])),g 46 42 (.mv (t 45)),h 47 46 (.fa 1 (t 6)),h 48 46 (.ld none (t 47)),⟨(some 49),(some (46,false)),(.call (.c (.fn (.func gF) [] [])) [(.t 48)])⟩,h 50 46
 (.un .not (t 49)),g 51 42 (.pk (t 46) T (t 50)),g 52 42 (.mv (t 51)),h 53 52 (.mv (t 5)),h 54 52 (.ar .gtr (t 53) (i 0)),h 55 52 (.mv (t 54)),g 56 55 (.mv (t 0)),g 57 55 (.mv
 (t 5)),g 58 55 (.ar .sub (t 57) (i 1)),g 59 55 (.ias 3 (t 56) (t 58)),g 60 55 (.fa 0 (t 59)),g 61 55 (.ld none (t 60)),g 62 55 (.ar .eql (t 61) (u 1)),h 63 52 (.pk (t 55) (t
 62) F),g 64 42 (.pk (t 52) T (t 63)),pf 65 42 64,m 38 65]) (Y [0,3,4,6,10,11,12,38])) (C 38 (rt 2 (u 4)) (Q (Q (O [fa 67 0 6,ld 68 67,ac 69 .neq 68 (u 1),m 70 69,g 71
 70 (.fa 1 (t 6)),g 72 70 (.ld none (t 71)),⟨(some 73),(some (70,true)),(.call (.c (.fn (.func kY) [] [])) [(.t 72)])⟩,g 74 70 (.un .not (t 73)),pf 75 70 74,m 66
 75]) (Y [0,3,4,6,10,11,12,66])) (C 66 (rt 2 (u 5)) (Q (Q (O [la 77 3 6,k2 78 fx 4 77,no 79 78,m 76 79]) (Y [0,3,4,6,10,11,12,76])) (C 76 (rt 2 (u
 8)) (Q (Q (O [fa 81 0 6,ld 82 81,ac 83 .eql 82 (u 3),m 84 83,g 85 84 (.fa 1 (t 6)),g 86 84 (.ld none (t 85)),⟨(some 87),(some (84,true)),(.call (.c (.fn (.func
 fO) [] [])) [(.t 3),(.t 86)])⟩,g 88 84 (.un .not (t 87)),pf 89 84 88,m 80 89]) (Y [0,3,4,6,10,11,12,80])) (C 80 (rt 2 (u 9)) X))))))))))) (Q (O [fa
 90 0 6,ld 91 90,ac 92 .eql 91 (u 2)]) (C 92 (Q (O [fa 93 1 6,ld 94 93,k2 95 fB 3 94]) (Q (Q (O [fa 96 0 3,ld 97 96,ls 98 97,ac 99 .gtr 98 (i 16)]) (Y
 [0,3,4,10,11,12,99])) (C 99 (rt 2 (u 3)) X))) X))))) (O [ad 100 12,m 12 100]))))
def jL:AC:=
 (Q (O [mc 2 (u 0)]) (Q (Q (O [m 7 0,ls 8 7,ac 9 .gtr 8 (i 512)]) (C 9 (rt 2 (u 3)) X)) (Q (O [o 3 (.nw [(.slice .nil 1 [])] eO)]) (Q (O [o 4 (.nw [(.bool false),
 (.bool false)] b8)]) (Q (Q (O [m 10 0,ls 11 10,mc 12 (i 0)]) (Q (.block 0 (lo [0,3,4,10,11,12] bg)) (Y [3]))) (Q (Q (Q (O [fa 101 0 3,ld 102
 101,ls 103 102,ac 104 .gtr 103 (i 0)]) (Y [104])) (C 104 (rt 2 (u 9)) X)) (rt 2 (u 0))))))))
def ec:AFn:=⟨jL,105,[.t 2],.drop,[],none⟩
theorem bz:qf ec [.t 2] .drop:=⟨rfl,rfl,rfl⟩
def aG:AC:=
 (Q (Q (Q (O [m 9 4,m 10 0,ls 11 10,bl 12 9 11]) (Y [0,3,4,12])) (C 12 X (.exit 0))) (Q (.block 1 (Q (Q (O [m 15 0,m 16 4,k2 17 gN 15 16,m 5 17]) (Y [0,
 3,4,5])) (Q (Q (O [m 18 5,ac 19 .eql 18 (u 0)]) (C 19 (Q (O [m 20 0,m 21 4,k2 22 fP 20 21,m 5 22]) (Y [0,3,4,5])) X)) (Q (Q (O [m 23 5,ac 24 .neq 23
 (u 0)]) (C 24 (Q (O [m 25 5,m 2 25]) R) X)) (Q (Q (Q (O [m 26 0,m 27 4,ia 28 3 26 27,fa 29 0 28,ld 30 29,ac 31 .eql 30 (u 3)]) (Y [0,3,4,31])) (C 31 (Q (Q (Q (D [Pm 32 3,W
 (ls 33 32),P (ac 34 .eql 33 (i 0)),Pm 35 34,P (h 36 35 (.mv (t 3))),P (h 37 35 (.mv (t 3))),W (h 38 35 (.len .sl (t 37))),P (h 39 35 (.ar .sub (t 38) (i 1))),P (h 40 35 (.ias
 1 (t 36) (t 39))),W (h 41 35 (.ld none (t 40))),P (h 42 35 (.mv (t 0))),P (h 43 35 (.mv (t 4))),P (h 44 35 (.ias 3 (t 42) (t 43))),P (h 45 35 (.fa 1 (t 44))),W (h 46 35 (.ld
 none (t 45))),P (h 47 35 (.ar .neq (t 41) (t 46))),P (pt 48 35 47)]) (Y [0,3,4,48])) (C 48 (rt 2 (u 9)) X)) (Q (O [m 49 3,m 50 3,ls 51 50,ac 52 .sub 51 (i 1),o 53 (.sll 1
 (t 49) none (some (t 52)) none),m 3 53]) (Y [0,3,4]))) X)) (Q (Q (O [m 54 0,m 55 4,ia 56 3 54 55,fa 57 0 56,ld 58 57,ac 59 .eql 58 (u 2)]) (Y [0,3,4,59])) (C 59 (Q (Q (O
 [m 60 3,m 61 0,m 62 4,ia 63 3 61 62,fa 64 1 63,ld 65 64,o 66 (.bs 1 [(.str [])] 1 [(0,(t 65))]),o 67 (.ap true aO 1 16 false (t 60) (t 66)),m 3 67]) (Y [0,3,4])) (Q
 (O [m 68 3,ls 69 68,ac 70 .gtr 69 (i 16)]) (C 70 (rt 2 (u 3)) X))) X))))))) (ic 13 4 14)))
def eT:AC:=
 (Q (O [mc 2 (u 0)]) (Q (Q (O [m 6 0,ls 7 6,ac 8 .gtr 7 (i 512)]) (C 8 (rt 2 (u 3)) X)) (Q (O [mc 3 (.c (.slice .nil 1 []))]) (Q (Q (O [mc 4 (i 0)]) (Q (.block 0 (lo [0,3,4]
 aG)) (Y [3]))) (Q (Q (O [m 71 3,ls 72 71,ac 73 .gtr 72 (i 0)]) (C 73 (rt 2 (u 9)) X)) (rt 2 (u 0)))))))
def cL:AFn:=⟨eT,74,[.t 2],.drop,[17],none⟩
theorem aM:qf cL [.t 2] .drop:=⟨rfl,rfl,rfl⟩
def cO:AC:=
 (Q (Q (Q (O [m 5 4,m 6 0,ls 7 6,bl 8 5 7]) (Y [0,3,4,8])) (C 8 X (.exit 0))) (Q (.block 1 (Q (Q (O [m 11 0,m 12 4,ia 13 3 11 12,fa 14 0 13,ld 15 14,ac 16 .eql 15 (u 1)])
 (Y [0,3,4,16])) (C 16 (Q (O [m 17 3,m 18 0,m 19 4,ia 20 3 18 19,fa 21 1 20,ld 22 21,ar 23 .add 17 22,m 3 23]) (Y [0,3,4])) X))) (ic 9 4 10)))
def gT:AC:=
 (Q (O [mc 2 (s [])]) (Q (O [mc 3 (s [])]) (Q (Q (O [mc 4 (i 0)]) (Q (.block 0 (lo [0,3,4] cO)) (Y [3]))) (Q (O [m 24 3,m 2 24]) R))))
def dU:AFn:=⟨gT,25,[.t 2],.drop,[],none⟩
theorem fi:qf dU [.t 2] .drop:=⟨rfl,rfl,rfl⟩
def ct:AC:=
 (Q (Q (Q (O [m 8 4,fa 9 0 1,ld 10 9,ls 11 10,bl 12 8 11,m 13 12,g 14 13 (.mv (t 4)),g 15 13 (.ar .lss (t 14) (i 300)),pf 16 13 15]) (Y [1,3,4,16])) (C 16 X (.exit 0))) (Q
 (.block 1 (Q (Q (Q (O [fa 19 0 1,ld 20 19,m 21 4,ia 22 2 20 21,fa 23 1 22,ld 24 23,o 25 (.bs 1 [(.slice .nil 0 [])] 1 [(0,(t 24))]),k1 26 fv 25]) (Y [1,3,
 4,26])) (C 26 (rt 2 T) X)) (Q (D [Pm 27 3,Pf 28 0 1,Wl 29 28,Pm 30 4,P (ia 31 2 29 30),Pf 32 1 31,Wl 33 32,W (ls 34 33),P (ar 35 .add 27 34),Pf 36 0 1,Wl 37 36,Pm 38 4,
 P (ia 39 2 37 38),Pf 40 1 39,Wl 41 40,K (k1 42 gK 41),W (lt 43 42),P (ar 44 .add 35 43),Pm 3 44]) (Y [1,3,4])))) (ic 17 4 18)))
def iP:AC:=
 (Q (O [o 1 (.bx ah (t 0)),mc 2 F]) (Q (Q (O [fa 5 0 1,ld 6 5,ls 7 6,m 3 7]) (Y [1,3])) (Q (Q (O [mc 4 (i 0)]) (Q (.block 0 (lo [1,3,4] ct)) (Y
 [3]))) (Q (O [m 45 3,ac 46 .gtr 45 (i 3500),m 2 46]) R))))
def ew:AFn:=⟨iP,47,[.t 2],.drop,[],none⟩
theorem dy:qf ew [.t 2] .drop:=⟨rfl,rfl,rfl⟩
def iQ:AC:=
 (Q (O [bl 32 31 30]) (Q (C 32 X (.exit 2)) (Q (.block 3 (Q (Q (O [ia 33 3 29 31,la 34 3 33,o 9 (.nw [(.int .u8 0),(.str []),(.bool false)] ae),n (.st 3 (t 9) (t 34))])
 (Y [5,9,16,17,18,29,30,31])) (O [la 35 3 9,k1 36 eY 35,k2 37 bU 5 36]))) (O [ad 38 31,m 31 38]))))
def iR:AC:=
 (Q (O [bl 19 18 17]) (Q (C 19 X (.exit 0)) (Q (Q (.block 1 (Q (Q (O [ia 20 2 16 18,la 21 2 20,o 7 (.nw [(.int .u8 0),(.slice .nil 3 [])] aV),n (.st 2 (t 7) (t 21))]) (Y
 [5,7,16,17,18])) (Q (Q (D [Pf 23 0 7,Wl 24 23,K (k 22 (f oS) []),P (o 25 (.ixa 7 none 1 (t 22) (t 24))),P (ac 26 .add 25 (s [32])),E (k2 27
 bU 5 26)]) (Y [5,7,16,17,18])) (Q (Q (Q (O [fa 28 1 7,ld 29 28,ls 30 29,mc 31 (i 0)]) (Y [5,16,17,18,29,30,31])) (Q (.block 2 (lc [5,16,17,
 18,29,30,31] iQ)) (Y [5,16,17,18]))) (O [k 39 (f bf) [(t 5),(u 10)]]))))) (Y [5,16,17,18])) (O [ad 40 18,m 18 40]))))
def ks:AC:=
 (Q (O [o 1 (.bx ah (t 0)),mc 2 (s []),mc 3 (u 0)]) (Q (Q (O [la 10 1 1,k1 11 mb 10,m 4 11]) (Q (O [m 12 4,ac 13 .neq 12 (u 0)]) (C 13 (Q (O [m 14 4,mc 2
 (s []),m 3 14]) R) X))) (Q (O [o 5 (.nwb [.nilp,(.slice .nil 1 [])] aq 1 dk)]) (Q (Q (Q (O [fa 15 0 1,ld 16 15,ls 17 16,mc 18 (i 0)]) (Y [5,16,17,18]))
 (Q (.block 0 (lc [5,16,17,18] iR)) (Y [5]))) (Q (Q (O [k1 41 gM 5,ac 42 .gtr 41 (i 65536)]) (C 42 (Q (O [mc 2 (s []),mc 3 (u 3)]) R) X)) (Q (O
 [k1 43 ed 5,m 2 43,mc 3 (u 0)]) R))))))
def gj:AFn:=⟨ks,44,[.t 2,.t 3],.drop,[1000008],none⟩
theorem eU:qf gj [.t 2,.t 3] .drop:=⟨rfl,rfl,rfl⟩
def dz:AC:=
 (Q (Q (Q (O [m 12 6,fa 13 0 1,ld 14 13,ls 15 14,bl 16 12 15]) (Y [1,5,6,16])) (C 16 X (.exit 0))) (Q (.block 1 (Q (D [Pm 19 5,Pf 21 0 1,Wl 22 21,Pm 23 6,P (ia 24 2 22
 23),Pf 25 0 24,Wl 26 25,Pf 31 0 1,Wl 32 31,Pm 33 6,P (ia 34 2 32 33),Pf 35 1 34,Wl 36 35,K (k 20 (f gO) []),P (ia 27 1 20 26),Wl 28 27,P (ar 29 .add
 19 28),P (ac 30 .add 29 (s [32])),K (k1 37 iH 36),P (ar 38 .add 30 37),P (ac 39 .add 38 (s [10])),Pm 5 39]) (Y [1,5,6]))) (ic 17 6 18)))
def cI:AC:=
 (Q (O [o 1 (.bx ah (t 0)),mc 2 (s []),mc 3 (u 0)]) (Q (O [la 7 1 1,k1 8 fg 7,m 4 8]) (Q (Q (O [m 9 4,ac 10 .neq 9 (u 0)]) (C 10 (Q (O [m 11 4,mc
 2 (s []),m 3 11]) R) X)) (Q (O [mc 5 (s [])]) (Q (Q (O [mc 6 (i 0)]) (Q (.block 0 (lo [1,5,6] dz)) (Y [5]))) (Q (Q (O [m 40 5,lt 41 40,ac 42 .gtr 41 (i
 65536)]) (C 42 (Q (O [mc 2 (s []),mc 3 (u 3)]) R) X)) (Q (O [m 43 5,m 2 43,mc 3 (u 0)]) R)))))))
def dV:AFn:=⟨cI,44,[.t 2,.t 3],.drop,[],none⟩
theorem dW:qf dV [.t 2,.t 3] .drop:=⟨rfl,rfl,rfl⟩
def dj:AC:=
 (Q (O [bl 14 13 12]) (Q (C 14 X (.exit 0)) (Q (.block 1 (Q (Q (O [ia 15 2 11 13,la 16 2 15,o 4 (.nw [(.int .u8 0),(.slice .nil 3 [])] aV),n (.st 2 (t 4) (t 16))]) (Y
 [4,11,12,13])) (Q (Q (Q (O [fa 17 0 4,ld 18 17,ac 19 .lss 18 (u 1),m 20 19,h 21 20 (.fa 0 (t 4)),h 22 20 (.ld none (t 21)),h 23 20 (.ar .gtr (t 22) (u 6)),pt 24 20 23]) (Y
 [4,11,12,13,24])) (C 24 (rt 2 (u 1)) X)) (Q (Q (Q (O [fa 25 1 4,ld 26 25,k1 27 bZ 26,m 5 27]) (Y [4,5,11,12,13])) (Q (O [m 28 5,ac 29 .neq 28 (u 0)]) (C
 29 (Q (O [m 30 5,m 2 30]) R) X))) (.block 2 (Q (Q (O [fa 32 1 4,ld 33 32,k1 34 oT 33,no 35 34,m 31 35]) (Y [4,11,12,13,31])) (C 31 (rt 2 (u 8)) (Q (Q (O [la 37 2
 4,k1 38 sn 37,no 39 38,m 36 39]) (Y [11,12,13,36])) (C 36 (rt 2 (u 1)) X))))))))) (O [ad 40 13,m 13 40]))))
def oZ:AC:=
 (Q (O [o 1 (.bx ah (t 0)),mc 2 (u 0)]) (Q (Q (Q (O [fa 6 0 1,ld 7 6,ls 8 7,ac 9 .gtr 8 (i 256)]) (Y [1,9])) (C 9 (rt 2 (u 3)) X)) (Q (Q (Q (O [fa 10 0 1,ld 11 10,
 ls 12 11,mc 13 (i 0)]) (Y [11,12,13])) (Q (.block 0 (lc [11,12,13] dj)) (Y []))) (rt 2 (u 0)))))
def ku:AFn:=⟨oZ,41,[.t 2],.drop,[],none⟩
theorem ee:qf ku [.t 2] .drop:=⟨rfl,rfl,rfl⟩
def bI:AC:=
 (Q (Q (Q (O [m 10 3,fa 11 0 1,ld 12 11,ls 13 12,bl 14 10 13]) (Y [1,3,14])) (C 14 X (.exit 0))) (Q (.block 1 (Q (Q (O [fa 17 0 1,ld 18 17,m 19 3,ia 20 2 18 19,la 21 2 20,
 o 4 (.nw [(.int .u8 0),(.slice .nil 3 [])] aV),n (.st 2 (t 4) (t 21))]) (Y [1,3,4])) (Q (Q (Q (O [fa 22 0 4,ld 23 22,ac 24 .lss 23 (u 1),m 25 24,h 26 25 (.fa 0 (t
 4)),h 27 25 (.ld none (t 26)),h 28 25 (.ar .gtr (t 27) (u 6)),pt 29 25 28]) (Y [1,3,4,29])) (C 29 (rt 2 (u 1)) X)) (Q (Q (O [fa 30 1 4,ld 31 30,k1 32
 eS 31,m 5 32]) (Y [1,3,4,5])) (Q (Q (O [m 33 5,ac 34 .eql 33 (u 0)]) (C 34 (Q (O [fa 35 0 4,ld 36 35,fa 37 1 4,ld 38 37,k2 39
 fQ 36 38,m 5 39]) (Y [1,3,5])) X)) (Q (O [m 40 5,ac 41 .neq 40 (u 0)]) (C 41 (Q (O [m 42 5,m 2 42]) R) X))))))) (ic 15 3 16)))
def gU:AC:=
 (Q (O [o 1 (.bx ah (t 0)),mc 2 (u 0)]) (Q (Q (Q (O [fa 6 0 1,ld 7 6,ls 8 7,ac 9 .gtr 8 (i 256)]) (Y [1,9])) (C 9 (rt 2 (u 3)) X)) (Q (Q (O [mc 3 (i 0)]) (Q (.block
 0 (lc [1,3] bI)) (Y []))) (rt 2 (u 0)))))
def dX:AFn:=⟨gU,43,[.t 2],.drop,[],none⟩
theorem bT:qf dX [.t 2] .drop:=⟨rfl,rfl,rfl⟩
def qI:AC:=
 (Q (O [o 2 (.bx ah (t 0)),o 3 (.bx ah (t 1)),mc 4 F]) (Q (Q (O [fa 5 0 2,ld 6 5,fa 7 0 3,ld 8 7,k 9 (f
 bD) [(t 6),(t 8),(f fC)],m 4 9]) (Y [4])) R))
def qJ:AFn:=⟨qI,10,[.t 4],.drop,[],none⟩
theorem Cr:qf qJ [.t 4] .drop:=⟨rfl,rfl,rfl⟩
def cu:AC:=
 (Q (Q (Q (O [m 13 5,fa 14 0 2,ld 15 14,ls 16 15,bl 17 13 16]) (Y [2,3,5,17])) (C 17 X (.exit 0))) (Q (.block 1 (Q (Q (D [Pf 20 0 2,Wl 21 20,Pm 22 5,P (ia 23 2 21 22),Pf
 24 0 23,Wl 25 24,Pf 26 0 3,Wl 27 26,Pm 28 5,P (ia 29 2 27 28),Pf 30 0 29,Wl 31 30,P (ar 32 .neq 25 31),Pm 33 32,P (h 34 33 (.fa 0 (t 2))),W (h 35 33 (.ld none (t 34))),P
 (h 36 33 (.mv (t 5))),P (h 37 33 (.ias 2 (t 35) (t 36))),P (h 38 33 (.fa 1 (t 37))),W (h 39 33 (.ld none (t 38))),P (h 40 33 (.fa 0 (t 3))),W (h 41 33 (.ld none (t 40))),P (h
 42 33 (.mv (t 5))),P (h 43 33 (.ias 2 (t 41) (t 42))),P (h 44 33 (.fa 1 (t 43))),W (h 45 33 (.ld none (t 44))),E (⟨(some 46),(some (33,false)),(.call (.c (.fn (.func
 bP) [] [])) [(.t 39),(.t 45)])⟩),P (h 47 33 (.un .not (t 46))),P (pt 48 33 47)]) (Y [2,3,5,48])) (C 48 (rt 4 F) X))) (ic 18 5 19)))
def cT:AC:=
 (Q (O [o 2 (.bx ah (t 0)),o 3 (.bx ah (t 1)),mc 4 F]) (Q (Q (Q (O [fa 6 0 2,ld 7 6,ls 8 7,fa 9 0 3,ld 10 9,ls 11 10,ar 12 .neq 8 11]) (Y [2,3,12]))
 (C 12 (rt 4 F) X)) (Q (Q (O [mc 5 (i 0)]) (Q (.block 0 (lo [2,3,5] cu)) (Y []))) (rt 4 T))))
def ey:AFn:=⟨cT,49,[.t 4],.drop,[],none⟩
theorem cU:qf ey [.t 4] .drop:=⟨rfl,rfl,rfl⟩
def fE:AC:=
 (Q (O [mc 2 (s [])]) (Q (Q (D [Pm 3 0,P (o 4 (.nc (t 3))),Pf 5 1 4,Wl 6 5,P (o 7 (.usl (t 6))),Pm 8 0,P (o 9 (.nc (t 8))),Pf 10 1 9,Wl 11 10,W (ls 12 11),E (o 13 (.ust
 dk (t 7) (t 12))),Pm 2 13]) (Y [2])) R))
def eh:AFn:=⟨fE,14,[.t 2],.drop,[],none⟩
theorem nG:qf eh [.t 2] .drop:=⟨rfl,rfl,rfl⟩
def ft:AC:=
 (Q (Q (Q (O [m 6 3,m 7 0,lt 8 7,bl 9 6 8]) (Y [0,3,9])) (C 9 X (.exit 0))) (.block 1 (Q (Q (O [m 11 0,m 12 3,o 13 (.sls (t 11) (some (t 12)) none),k1 14
 bV 13,m 10 14,ex 15 10 0,ex 16 10 1,m 4 15,m 5 16]) (Y [0,3,4,5])) (Q (Q (Q (O [m 17 4,o 18 (.ar .eql (t 17) (.c (.int .i32 65533))),m 19
 18,g 20 19 (.mv (t 5)),g 21 19 (.ar .lss (t 20) (i 2)),pf 22 19 21,m 23 22,h 24 23 (.mv (t 4)),h 25 23 (.ar .lss (t 24) (.c (.int .i32 32))),pt 26 23 25,m 27 26,h 28 27
 (.mv (t 4)),h 29 27 (.ar .eql (t 28) (.c (.int .i32 127))),pt 30 27 29]) (Y [0,3,5,30])) (C 30 (rt 2 F) X)) (Q (O [m 31 3,m 32 5,ar 33 .add 31 32,m 3 33]) (Y [0,3]))))))
def nH:AC:=
 (Q (O [mc 2 F]) (Q (Q (O [mc 3 (i 0)]) (Q (.block 0 (lo [0,3] ft)) (Y []))) (rt 2 T)))
def gG:AFn:=⟨nH,34,[.t 2],.drop,[],none⟩
theorem kZ:qf gG [.t 2] .drop:=⟨rfl,rfl,rfl⟩
def cM:AC:=
 (Q (O [mc 4 (.c .nilif)]) (Q (O [m 5 0,k1 6 cJ 5]) (Q (Q (O [m 7 0,m 8 0,o 9 (.nc (t 8)),fa 10 1 9,ld 11 10,m 12 1,o 13 (.bs 1 [(.int .u8 0)] 1 [(0,
 (t 12))]),o 14 (.ap false dk 1 1 false (t 11) (t 13)),o 15 (.nc (t 7)),fa 16 1 15,n (.st 1 (t 16) (t 14))]) (Y [])) (Q (O [mc 4 (.c .nilif)]) R))))
def dC:AFn:=⟨cM,17,[.t 4],.keep,[],none⟩
theorem iy:qf dC [.t 4] .keep:=⟨rfl,rfl,rfl⟩
def cj:AC:=
 (Q (O [mc 4 (i 0),mc 5 (.c .nilif)]) (Q (O [m 6 0,k1 7 cJ 6]) (Q (Q (O [m 8 0,m 9 0,o 10 (.nc (t 9)),fa 11 1 10,ld 12 11,m 13 1,o 14 (.ap false
 dk 1 1 true (t 12) (t 13)),o 15 (.nc (t 8)),fa 16 1 15,n (.st 1 (t 16) (t 14))]) (Y [1])) (Q (Q (O [m 17 1,lt 18 17,m 4 18,mc 5 (.c .nilif)]) (Y [4,5])) R))))
def ez:AFn:=⟨cj,19,[.t 4,.t 5],.keep,[],none⟩
theorem gi:qf ez [.t 4,.t 5] .keep:=⟨rfl,rfl,rfl⟩
def iS:AC:=
 (Q (O [o 1 (.bx ae (t 0)),mc 2 (s [])]) (Q (O [mc 3 (s [])]) (Q (Q (O [fa 4 2 1,ld 5 4]) (C 5 (O [mc 3 (s [43])]) X)) (Q (Q (O [fa 6 0 1,ld 7 6]) (.block 0 (Q (O [ac 9
 .eql 7 (u 2),m 8 9]) (C 8 (Q (Q (O [m 10 3,o 11 (.ar .add (s [60]) (t 10)),fa 12 1 1,ld 13 12,ar 14 .add 11 13,ac 15 .add 14 (s [62]),m 2 15]) (Y [2])) R) (Q (O [ac 17 .eql 7
 (u 3),m 16 17]) (C 16 (Q (Q (O [m 18 3,o 19 (.ar .add (s [60,47]) (t 18)),fa 20 1 1,ld 21 20,ar 22 .add 19 21,ac 23 .add 22 (s [62]),m 2 23]) (Y [2])) R) (Q (O [ac 25 .eql 7
 (u 4),m 24 25]) (C 24 (Q (Q (O [fa 26 1 1,ld 27 26,o 28 (.ar .add (s [60]) (t 27)),ac 29 .add 28 (s [47,62]),m 2 29]) (Y [2])) R) (Q (O [ac 31 .eql 7 (u 5),m 30 31]) (C 30 (Q
 (Q (O [fa 32 1 1,ld 33 32,o 34 (.ar .add (s [123]) (t 33)),ac 35 .add 34 (s [125]),m 2 35]) (Y [2])) R) X)))))))))) (Q (Q (D [P (o 36 (.bs 1 [(.str [])] 6 [(0,(s [92])),(1,(s
 [92,92])),(2,(s [60])),(3,(s [92,60])),(4,(s [123])),(5,(s [92,123]))])),Pf 38 1 1,Wl 39 38,K (k1 37 fh 36),E (k2 40 dG 37
 39),Pm 2 40]) (Y [2])) R)))))
def mR:AFn:=⟨iS,41,[.t 2],.drop,[1000013],none⟩
theorem dJ:qf mR [.t 2] .drop:=⟨rfl,rfl,rfl⟩
def gV:AC:=
 (Q (O [mc 2 (i 0)]) (Q (Q (O [m 3 0,o 4 (.nc (t 3)),fa 5 1 4,ld 6 5,ls 7 6,m 2 7]) (Y [2])) R))
def gW:AFn:=⟨gV,8,[.t 2],.drop,[],none⟩
theorem pH:qf gW [.t 2] .drop:=⟨rfl,rfl,rfl⟩
def dK:AC:=
 (Q (Q (Q (O [m 5 4,m 6 0,ls 7 6,bl 8 5 7]) (Y [0,3,4,8])) (C 8 X (.exit 0))) (Q (.block 1 (Q (O [m 11 3,m 12 0,m 13 4,ia 14 3 12 13,la 15 3 14,k1 16
 fR 15,ar 17 .add 11 16,m 3 17]) (Y [0,3,4]))) (ic 9 4 10)))
def iT:AC:=
 (Q (O [mc 2 (s [])]) (Q (O [mc 3 (s [])]) (Q (Q (O [mc 4 (i 0)]) (Q (.block 0 (lo [0,3,4] dK)) (Y [3]))) (Q (O [m 18 3,m 2 18]) R))))
def eA:AFn:=⟨iT,19,[.t 2],.drop,[],none⟩
theorem iU:qf eA [.t 2] .drop:=⟨rfl,rfl,rfl⟩
def gq:AC:=
 (Q (O [bl 25 24 23]) (Q (C 25 X (.exit 0)) (Q (.block 1 (Q (O [m 26 24,m 3 26]) (Q (Q (O [m 27 0,m 28 3,o 29 (.ixs (t 27) (t 28)),m 4 29]) (Y [0,4,23,24])) (Q (Q (O [m 30 4,
 ac 31 .geq 30 (u 97),m 32 31,g 33 32 (.mv (t 4)),g 34 32 (.ar .leq (t 33) (u 122)),pf 35 32 34,m 36 35,h 37 36 (.mv (t 4)),h 38 36 (.ar .geq (t 37) (u 48)),h 39 36 (.mv (t
 38)),g 40 39 (.mv (t 4)),g 41 39 (.ar .leq (t 40) (u 57)),h 42 36 (.pk (t 39) (t 41) F),pt 43 36 42,m 44 43,h 45 44 (.mv (t 4)),h 46 44 (.ar .eql (t 45) (u 45)),pt 47 44 46,
 no 48 47]) (Y [0,23,24,48])) (C 48 (rt 2 F) X))))) (O [ad 49 24,m 24 49]))))
def nI:AC:=
 (Q (O [mc 2 F]) (Q (Q (Q (O [m 5 0,ac 6 .eql 5 (s []),m 7 6,h 8 7 (.mv (t 0)),h 9 7 (.len .str (t 8)),h 10 7 (.ar .gtr (t 9) (i 16)),pt 11 7 10,m 12 11,h 13 12 (.mv (t 0)),
 h 14 12 (.ixs (t 13) (i 0)),h 15 12 (.ar .lss (t 14) (u 97)),pt 16 12 15,m 17 16,h 18 17 (.mv (t 0)),h 19 17 (.ixs (t 18) (i 0)),h 20 17 (.ar .gtr (t 19) (u 122)),pt 21 17
 20]) (Y [0,21])) (C 21 (rt 2 F) X)) (Q (Q (O [m 22 0,lt 23 22,mc 24 (i 0)]) (Q (.block 0 (lo [0,23,24] gq)) (Y []))) (rt 2 T))))
def gH:AFn:=⟨nI,50,[.t 2],.drop,[],none⟩
theorem k6:qf gH [.t 2] .drop:=⟨rfl,rfl,rfl⟩
def iV:AC:=
 (Q (O [o 3 (.bx ae (t 1)),mc 4 F]) (Q (Q (O [fa 7 0 3,ld 8 7,ac 9 .eql 8 (u 2),m 10 9,g 11 10 (.fa 2 (t 3)),g 12 10 (.ld none (t 11)),pf 13 10 12,m 5 13]) (Y [0,3,
 5])) (Q (Q (O [fa 14 0 3,ld 15 14,ac 16 .eql 15 (u 3),m 17 16,g 18 17 (.fa 2 (t 3)),g 19 17 (.ld none (t 18)),pf 20 17 19,m 6 20]) (Y [0,5,6])) (Q (Q (Q (O [m 21 5,m 22
 21,g 23 22 (.mv (t 0)),g 24 22 (.nc (t 23)),g 25 22 (.fa 0 (t 24)),g 26 22 (.ld none (t 25)),pf 27 22 26,m 28 27,h 29 28 (.mv (t 0)),h 30 28 (.nc (t 29)),h 31 28 (.fa 1 (t
 30)),h 32 28 (.ld none (t 31)),h 33 28 (.mv (t 32)),g 34 33 (.mv (t 6)),g 35 33 (.un .not (t 34)),h 36 28 (.pk (t 33) (t 35) F),pt 37 28 36]) (Y [0,5,6,37])) (C 37 (rt 4 F)
 X)) (Q (Q (O [m 38 0,m 39 0,o 40 (.nc (t 39)),fa 41 0 40,ld 42 41,m 43 42,h 44 43 (.mv (t 5)),h 45 43 (.un .not (t 44)),pt 46 43 45,o 47 (.nc (t 38)),fa 48 0 47,n (.st 1
 (t 48) (t 46))]) (Y [0,6])) (Q (Q (O [m 49 0,m 50 0,o 51 (.nc (t 50)),fa 52 1 51,ld 53 52,m 54 53,h 55 54 (.mv (t 6)),pt 56 54 55,o 57 (.nc (t 49)),fa 58 1 57,n (.st 1 (t
 58) (t 56))]) (Y [])) (rt 4 T)))))))
def fy:AFn:=⟨iV,59,[.t 4],.drop,[],none⟩
theorem lu:qf fy [.t 4] .drop:=⟨rfl,rfl,rfl⟩
def cf:AC:=
 (Q (O [mc 4 F]) (Q (Q (O [m 6 0,o 7 (.nc (t 6)),fa 8 0 7,ld 9 8,ls 10 9,m 5 10]) (Y [0,1,5])) (Q (Q (Q (O [m 11 5,ac 12 .eql 11 (i 0),m 13 12,h 14 13 (.mv (t 0)),h 15 13
 (.nc (t 14)),h 16 13 (.fa 0 (t 15)),h 17 13 (.ld none (t 16)),h 18 13 (.mv (t 5)),h 19 13 (.ar .sub (t 18) (i 1)),h 20 13 (.ias 1 (t 17) (t 19)),h 21 13 (.ld none (t 20)),h
 22 13 (.mv (t 1)),h 23 13 (.ar .neq (t 21) (t 22)),pt 24 13 23]) (Y [0,5,24])) (C 24 (rt 4 F) X)) (Q (Q (O [m 25 0,m 26 0,o 27 (.nc (t 26)),fa 28 0 27,ld 29 28,m 30 5,ac
 31 .sub 30 (i 1),o 32 (.sll 1 (t 29) none (some (t 31)) none),o 33 (.nc (t 25)),fa 34 0 33,n (.st 1 (t 34) (t 32))]) (Y [])) (rt 4 T)))))
def eG:AFn:=⟨cf,35,[.t 4],.drop,[],none⟩
theorem fS:qf eG [.t 4] .drop:=⟨rfl,rfl,rfl⟩
def fF:AC:=
 (Q (O [m 4 0,m 5 0,o 6 (.nc (t 5)),fa 7 0 6,ld 8 7,m 9 1,o 10 (.bs 1 [(.str [])] 1 [(0,(t 9))]),o 11 (.ap true aO 1 16 false (t 8) (t 10)),o 12 (.nc (t 4)),fa 13 0
 12,n (.st 1 (t 13) (t 11))]) (Y []))
def fG:AFn:=⟨fF,14,[],.keep,[0],none⟩
theorem nJ:qf fG [] .keep:=⟨rfl,rfl,rfl⟩
def gX:AC:=
 (Q (O [mc 4 (u 0)]) (Q (Q (O [m 6 0,m 7 1,ia 8 3 6 7,la 9 3 8,o 5 (.nw [(.int .u8 0),(.str []),(.bool false)] ae),n (.st 3 (t 5) (t 9))]) (Y [0,1,5])) (Q (.block 0
 (Q (Q (O [fa 11 0 5,ld 12 11,ac 13 .lss 12 (u 1),m 14 13,h 15 14 (.fa 0 (t 5)),h 16 14 (.ld none (t 15)),h 17 14 (.ar .gtr (t 16) (u 5)),pt 18 14 17,m 10 18]) (Y [0,1,5,
 10])) (C 10 (rt 4 (u 1)) (Q (Q (O [fa 20 2 5,ld 21 20,m 22 21,g 23 22 (.fa 0 (t 5)),g 24 22 (.ld none (t 23)),g 25 22 (.ar .neq (t 24) (u 2)),pf 26 22 25,m 27 26,g 28 27
 (.fa 0 (t 5)),g 29 27 (.ld none (t 28)),g 30 27 (.ar .neq (t 29) (u 3)),pf 31 27 30,m 19 31]) (Y [0,1,5,19])) (C 19 (rt 4 (u 1)) (Q (Q (O [fa 33 0 5,ld 34 33,ac 35 .eql 34
 (u 1),m 36 35,g 37 36 (.fa 1 (t 5)),g 38 36 (.ld none (t 37)),g 39 36 (.ar .eql (t 38) (s [])),g 40 36 (.mv (t 39)),h 41 40 (.fa 1 (t 5)),h 42 40 (.ld none (t 41)),⟨(some
 43),(some (40,false)),(.call (.c (.fn (.func iI) [] [])) [(.t 42)])⟩,h 44 40 (.un .not (t 43)),g 45 36 (.pk (t 40) T (t 44)),g 46 36 (.mv (t 45)),h 47 46
 (.mv (t 1)),h 48 46 (.ar .gtr (t 47) (i 0)),h 49 46 (.mv (t 48)),g 50 49 (.mv (t 0)),g 51 49 (.mv (t 1)),g 52 49 (.ar .sub (t 51) (i 1)),g 53 49 (.ias 3 (t 50) (t 52)),g 54
 49 (.fa 0 (t 53)),g 55 49 (.ld none (t 54)),g 56 49 (.ar .eql (t 55) (u 1)),h 57 46 (.pk (t 49) (t 56) F),g 58 36 (.pk (t 46) T (t 57)),pf 59 36 58,m 32 59]) (Y [5,32])) (C
 32 (rt 4 (u 4)) (Q (Q (O [fa 61 0 5,ld 62 61,ac 63 .neq 62 (u 1),m 64 63,g 65 64 (.fa 1 (t 5)),g 66 64 (.ld none (t 65)),⟨(some 67),(some (64,true)),(.call (.c (.fn (.func
 iJ) [] [])) [(.t 66)])⟩,g 68 64 (.un .not (t 67)),pf 69 64 68,m 60 69]) (Y [60])) (C 60 (rt 4 (u 5)) X))))))))) (rt 4 (u 0)))))
def gY:AFn:=⟨gX,70,[.t 4],.drop,[],none⟩
theorem pI:qf gY [.t 4] .drop:=⟨rfl,rfl,rfl⟩
def dc:AC:=
 (Q (Q (O [m 8 5,m 9 1,bl 10 8 9]) (C 10 X (.exit 0))) (Q (.block 1 (Q (Q (O [m 13 0,m 14 5,ia 15 3 13 14,fa 16 2 15,ld 17 16,m 18 17,g 19 18 (.mv (t 0)),g 20 18 (.mv (t
 5)),g 21 18 (.ias 3 (t 19) (t 20)),g 22 18 (.fa 0 (t 21)),g 23 18 (.ld none (t 22)),g 24 18 (.ar .eql (t 23) (u 2)),pf 25 18 24,m 6 25]) (Y [0,1,5,6])) (Q (Q (O [m 26 0,m
 27 5,ia 28 3 26 27,fa 29 2 28,ld 30 29,m 31 30,g 32 31 (.mv (t 0)),g 33 31 (.mv (t 5)),g 34 31 (.ias 3 (t 32) (t 33)),g 35 31 (.fa 0 (t 34)),g 36 31 (.ld none (t 35)),g 37
 31 (.ar .eql (t 36) (u 3)),pf 38 31 37,m 7 38]) (Y [0,1,5,6,7])) (Q (Q (Q (O [m 39 0,m 40 1,ia 41 3 39 40,fa 42 2 41,ld 43 42,m 44 43,g 45 44 (.mv (t 0)),g 46 44 (.mv
 (t 1)),g 47 44 (.ias 3 (t 45) (t 46)),g 48 44 (.fa 0 (t 47)),g 49 44 (.ld none (t 48)),g 50 44 (.ar .eql (t 49) (u 2)),pf 51 44 50,m 52 51,g 53 52 (.mv (t 6)),g 54 52 (.un
 .not (t 53)),pf 55 52 54]) (Y [0,1,5,7,55])) (C 55 (rt 4 (u 8)) X)) (Q (Q (O [m 56 7,m 57 56,g 58 57 (.mv (t 0)),g 59 57 (.mv (t 1)),g 60 57 (.ias 3 (t 58) (t 59)),g 61 57
 (.fa 2 (t 60)),g 62 57 (.ld none (t 61)),g 63 57 (.mv (t 62)),g 64 63 (.mv (t 0)),g 65 63 (.mv (t 1)),g 66 63 (.ias 3 (t 64) (t 65)),g 67 63 (.fa 0 (t 66)),g 68 63 (.ld none
 (t 67)),g 69 63 (.ar .eql (t 68) (u 3)),g 70 57 (.pk (t 63) (t 69) F),g 71 57 (.un .not (t 70)),pf 72 57 71]) (Y [0,1,5,72])) (C 72 (rt 4 (u 8)) X)))))) (ic 11 5 12)))
def fT:AC:=
 (Q (O [mc 4 (u 0)]) (Q (Q (O [mc 5 (i 0)]) (Q (.block 0 (lo [0,1,5] dc)) (Y []))) (rt 4 (u 0))))
def dA:AFn:=⟨fT,73,[.t 4],.drop,[],none⟩
theorem fU:qf dA [.t 4] .drop:=⟨rfl,rfl,rfl⟩
def o1:AC:=
 (Q (O [o 0 (.nw [(.str []),(.str []),(.str []),(.str []),(.str []),(.str []),(.str [])] xU)]) (Q (O [o 1 (.ba 1 [(.str []),(.str []),(.str []),(.str []),(.str []),
 (.str []),(.str [])] [(1,(s [104,49])),(2,(s [104,50])),(3,(s [104,51])),(4,(s [112])),(5,(s [108,105])),(6,(s [114,97,119]))]),n (.st 7 (t 0) (t 1))]) R))
def o3:AFn:=⟨o1,2,[.cell 0 (some 7)],.drop,[],none⟩
theorem Bc:qf o3 [.cell 0 (some 7)] .drop:=⟨rfl,rfl,rfl⟩
def gZ:AC:=
 (Q (O [mc 0 (.c (.slice .nil 1 []))]) (Q (O [o 1 (.bs 1 [(.str [])] 7 [(0,(s [])),(1,(s [104,49])),(2,(s [104,50])),(3,(s [104,51])),(4,(s [112])),(5,(s [108,105])),
 (6,(s [114,97,119]))]),m 0 1]) R))
def hZ:AFn:=⟨gZ,2,[.t 0],.drop,[],none⟩
theorem pJ:qf hZ [.t 0] .drop:=⟨rfl,rfl,rfl⟩
def o4:AC:=
 (Q (O [mc 2 F]) (Q (Q (O [m 3 0,k 4 (f bO) [(t 3),(f mM)],no 5 4,m 2 5]) (Y [2])) R))
def o5:AFn:=⟨o4,6,[.t 2],.drop,[],none⟩
theorem Bd:qf o5 [.t 2] .drop:=⟨rfl,rfl,rfl⟩
def sr:AC:=
 (Q (O [o 1 (.bx aV (t 0)),mc 2 F]) (Q (Q (O [fa 3 0 1,ld 4 3,ac 5 .neq 4 (u 6),m 6 5,h 7 6 (.fa 1 (t 1)),h 8 6 (.ld none (t 7)),⟨(some 9),(some (6,false)),(.call
 (.c (.fn (.func bO) [] [])) [(.t 8),(.c (.fn (.func oV) [] []))])⟩,h 10 6 (.un .not (t 9)),pt 11 6 10,m 2 11]) (Y [2])) R))
def ss:AFn:=⟨sr,12,[.t 2],.drop,[],none⟩
theorem xW:qf ss [.t 2] .drop:=⟨rfl,rfl,rfl⟩
def fV:AC:=
 (Q (O [mc 4 (u 0)]) (Q (Q (O [m 5 1,k1 6 gP 5,no 7 6]) (C 7 (rt 4 (u 8)) X)) (Q (Q (Q (O [m 8 0,ac 9 .eql 8 (u 6),m 10 9,g 11 10 (.mv (t 1)),⟨(some 12),
 (some (10,true)),(.call (.c (.fn (.func iK) [] [])) [(.t 11)])⟩,g 13 10 (.un .not (t 12)),pf 14 10 13]) (Y [14])) (C 14 (rt 4 (u 1)) X)) (rt 4 (u 0)))))
def fW:AFn:=⟨fV,15,[.t 4],.drop,[],none⟩
theorem eH:qf fW [.t 4] .drop:=⟨rfl,rfl,rfl⟩
def aK:AC:=
 (Q (O [bl 18 17 16]) (Q (C 18 X (.exit 0)) (Q (.block 1 (Q (Q (O [m 19 17,ia 20 2 15 17,la 21 2 20,o 8 (.nw [(.int .u8 0),(.slice .nil 3 [])] aV),m 7 19,n (.st 2 (t
 8) (t 21))]) (Y [1,2,7,8,15,16,17])) (Q (Q (O [m 22 1,m 23 7,ia 24 2 22 23,la 25 2 24,o 9 (.nw [(.int .u8 0),(.slice .nil 3 [])] aV),n (.st 2 (t 9) (t 25))]) (Y
 [1,2,8,9,15,16,17])) (Q (Q (O [m 26 2,la 27 2 8,la 28 2 9,k 29 (t 26) [(t 27),(t 28)],no 30 29]) (Y [1,2,15,16,17,30])) (C 30 (rt 6 F) X))))) (O [ad 31 17,m 17
 31]))))
def aF:AC:=
 (Q (O [mc 6 F]) (Q (Q (Q (O [m 10 0,ls 11 10,m 12 1,ls 13 12,ar 14 .neq 11 13]) (Y [0,1,2,14])) (C 14 (rt 6 F) X)) (Q (Q (O [m 15 0,ls 16 15,mc 17 (i 0)]) (Q (.block 0 (lc
 [1,2,15,16,17] aK)) (Y []))) (rt 6 T))))
def aU:AFn:=⟨aF,32,[.t 6],.drop,[],none⟩
theorem aN:qf aU [.t 6] .drop:=⟨rfl,rfl,rfl⟩
def nK:AC:=
 (Q (O [o 2 (.bx aV (t 0)),o 3 (.bx aV (t 1)),mc 4 F]) (Q (Q (O [fa 5 0 2,ld 6 5,fa 7 0 3,ld 8 7,ar 9 .eql 6 8,m 10 9,g 11 10 (.fa 1 (t 2)),g 12 10 (.ld
 none (t 11)),g 13 10 (.fa 1 (t 3)),g 14 10 (.ld none (t 13)),⟨(some 15),(some (10,true)),(.call (.c (.fn (.func dq) [] [])) [(.t 12),(.t
 14)])⟩,pf 16 10 15,m 4 16]) (Y [4])) R))
def nL:AFn:=⟨nK,17,[.t 4],.drop,[],none⟩
theorem r9:qf nL [.t 4] .drop:=⟨rfl,rfl,rfl⟩
def bA:AC:=
 (Q (O [bl 14 13 12]) (Q (C 14 X (.exit 0)) (Q (.block 1 (Q (O [m 15 13,m 5 15]) (Q (Q (D [Pm 16 0,Pm 17 5,P (ia 18 3 16 17),W (la 19 3 18),Pm 20 1,Pm 21 5,P (ia 22 3 20 21),
 W (la 23 3 22),P (o 24 (.eq true (.st [(0,(.int .u8)),(1,.str),(2,.bool)]) (t 19) (t 23)))]) (Y [0,1,12,13,24])) (C 24 (rt 4 F) X)))) (O [ad 25 13,m 13 25]))))
def bk:AC:=
 (Q (O [mc 4 F]) (Q (Q (Q (O [m 6 0,ls 7 6,m 8 1,ls 9 8,ar 10 .neq 7 9]) (Y [0,1,10])) (C 10 (rt 4 F) X)) (Q (Q (O [m 11 0,ls 12 11,mc 13 (i 0)]) (Q (.block 0 (lo [0,1,12,
 13] bA)) (Y []))) (rt 4 T))))
def bS:AFn:=⟨bk,26,[.t 4],.drop,[],none⟩
theorem bE:qf bS [.t 4] .drop:=⟨rfl,rfl,rfl⟩
def vB:AC:=
 (Q (O [mc 4 (i 0)]) (Q (Q (O [m 5 0,m 6 1,k2 7 gp 5 6,m 4 7]) (Y [4])) R))
def lK:AFn:=⟨vB,8,[.t 4],.drop,[],none⟩
def cN:AC:=
 (Q (Q (O [m 2 0,o 3 (.nc (t 2)),fa 4 0 3,ld 5 4,o 6 (.eq false .ptr (t 5) (.c .nilp))]) (Y [0,6])) (C 6 (Q (O [m 7 0,m 8 0,o 9 (.cvu (t 8)),k1 10 dw 9,
 o 11 (.cvf aq 2 (t 10)),o 12 (.nc (t 7)),fa 13 0 12,n (.st 1 (t 13) (t 11))]) (Y [])) (Q (Q (O [m 14 0,o 15 (.nc (t 14)),fa 16 0 15,ld 17 16,m 18 0,o 19 (.eq
 true .ptr (t 17) (t 18))]) (Y [19])) (C 19 .bad X))))
def dD:AFn:=⟨cN,20,[],.drop,[],none⟩
theorem iz:qf dD [] .drop:=⟨rfl,rfl,rfl⟩
def ie:AC:=
 (Q (O [mc 2 (.c .nilp)]) (Q (Q (Q (O [m 3 0,ls 4 3,ac 5 .rem 4 (i 2),ac 6 .eql 5 (i 1)]) (Y [0,6])) (C 6 (O [o 7 (.mi aO (s [115,116,114,105,110,103,115,46,78,
 101,119,82,101,112,108,97,99,101,114,58,32,111,100,100,32,97,114,103,117,109,101,110,116,32,99,111,117,110,116])),⟨none,none,(.panic (.t 7))⟩]) X))
 (Q (Q (O [m 8 0,o 9 (.ap false aO 1 16 false (.c (.slice .nil 1 [])) (t 8)),o 10 (.bd [(.int .u32 0),(.int .i32 0),(.int .u32 0),.nilif,(.slice .nil 1 [])] [(0,3),(3,
 1),(4,1)] [(2,(t 9))]),o 11 (.bx jK (t 10)),m 2 11]) (Y [2])) R)))
def ig:AFn:=⟨ie,12,[.t 2],.keep,[],none⟩
theorem pK:qf ig [.t 2] .keep:=⟨rfl,rfl,rfl⟩
def fb:AC:=
 (Q (O [mc 4 (s [])]) (Q (Q (O [m 5 0,o 6 (.nc (t 5)),fa 7 0 6,m 8 0,o 9 (.mf (.func bh) [(t 8)] []),k2 10 iM 7 9]) (Y [0,1])) (Q (Q (O [m
 11 0,o 12 (.nc (t 11)),fa 13 3 12,ld 14 13,m 15 1,⟨(some 16),none,(.inv (.t 14) "Replace" [(.t 15)])⟩,m 4 16]) (Y [4])) R)))
def fc:AFn:=⟨fb,17,[.t 4],.keep,[],none⟩
theorem mS:qf fc [.t 4] .keep:=⟨rfl,rfl,rfl⟩
def cq:AC:=
 (Q (Q (Q (O [m 38 5,fa 39 1 1,ld 40 39,lt 41 40,bl 42 38 41]) (Y [1,4,5,42])) (C 42 X (.exit 1))) (Q (.block 2 (Q (Q (Q (O [fa 45 1 1,ld 46 45,m 47 5,o 48 (.ixs (t 46) (t
 47)),ac 49 .eql 48 (u 92),m 50 49,h 51 50 (.fa 1 (t 1)),h 52 50 (.ld none (t 51)),h 53 50 (.mv (t 5)),h 54 50 (.ixs (t 52) (t 53)),h 55 50 (.ar .eql (t 54) (u 60)),pt 56 50
 55,m 57 56,h 58 57 (.fa 1 (t 1)),h 59 57 (.ld none (t 58)),h 60 57 (.mv (t 5)),h 61 57 (.ixs (t 59) (t 60)),h 62 57 (.ar .eql (t 61) (u 123)),pt 63 57 62]) (Y [1,4,5,63]))
 (C 63 (O [m 64 4,ac 65 .add 64 (s [92]),m 4 65]) X)) (Q (O [m 66 4,fa 67 1 1,ld 68 67,m 69 5,m 70 5,ad 71 70,o 72 (.sls (t 68) (some (t 69)) (some (t 71))),ar 73 .add 66
 72,m 4 73]) (Y [1,4,5])))) (ic 43 5 44)))
def fX:AC:=
 (Q (O [o 1 (.bx ae (t 0)),mc 2 (s [])]) (Q (O [mc 3 (s [])]) (Q (Q (O [fa 6 2 1,ld 7 6]) (C 7 (O [mc 3 (s [43])]) X)) (Q (Q (O [fa 8 0 1,ld 9 8]) (.block 0 (Q (O [ac 11
 .eql 9 (u 2),m 10 11]) (C 10 (Q (Q (O [m 12 3,o 13 (.ar .add (s [60]) (t 12)),fa 14 1 1,ld 15 14,ar 16 .add 13 15,ac 17 .add 16 (s [62]),m 2 17]) (Y [2])) R) (Q (O [ac 19
 .eql 9 (u 3),m 18 19]) (C 18 (Q (Q (O [m 20 3,o 21 (.ar .add (s [60,47]) (t 20)),fa 22 1 1,ld 23 22,ar 24 .add 21 23,ac 25 .add 24 (s [62]),m 2 25]) (Y [2])) R) (Q (O [ac 27
 .eql 9 (u 4),m 26 27]) (C 26 (Q (Q (O [fa 28 1 1,ld 29 28,o 30 (.ar .add (s [60]) (t 29)),ac 31 .add 30 (s [47,62]),m 2 31]) (Y [2])) R) (Q (O [ac 33 .eql 9 (u 5),m 32 33])
 (C 32 (Q (Q (O [fa 34 1 1,ld 35 34,o 36 (.ar .add (s [123]) (t 35)),ac 37 .add 36 (s [125]),m 2 37]) (Y [2])) R) X)))))))))) (Q (O [mc 4 (s [])]) (Q (Q (O [mc 5 (i 0)]) (Q
 (.block 1 (lo [1,4,5] cq)) (Y [4]))) (Q (O [m 74 4,m 2 74]) R)))))))
def dB:AFn:=⟨fX,75,[.t 2],.drop,[],none⟩
theorem bb:qf dB [.t 2] .drop:=⟨rfl,rfl,rfl⟩
def dL:AC:=
 (Q (Q (Q (O [m 11 4,m 12 3,ls 13 12,bl 14 11 13]) (Y [3,4,14])) (C 14 X (.exit 0))) (Q (.block 1 (Q (Q (O [m 17 3,m 18 4,ia 19 1 17 18,ld 20 19,o 21 (.ar .lss (t 20) (.c
 (.int .i32 32))),m 22 21,h 23 22 (.mv (t 3)),h 24 22 (.mv (t 4)),h 25 22 (.ias 1 (t 23) (t 24)),h 26 22 (.ld none (t 25)),h 27 22 (.ar .eql (t 26) (.c (.int .i32 127))),pt 28
 22 27]) (Y [3,4,28])) (C 28 (rt 2 F) X))) (ic 15 4 16)))
def iW:AC:=
 (Q (O [mc 2 F]) (Q (O [m 5 0,o 6 (.cvsr (t 5)),m 3 6]) (Q (Q (Q (O [m 7 3,o 8 (.cvrs (t 7)),m 9 0,ar 10 .neq 8 9]) (Y [3,10])) (C 10 (rt 2 F) X)) (Q (Q (O [mc 4 (i 0)]) (Q
 (.block 0 (lo [3,4] dL)) (Y []))) (rt 2 T)))))
def eB:AFn:=⟨iW,29,[.t 2],.drop,[],none⟩
theorem iX:qf eB [.t 2] .drop:=⟨rfl,rfl,rfl⟩
def dM:AC:=
 (Q (Q (Q (O [m 23 3,m 24 0,lt 25 24,bl 26 23 25]) (Y [0,3,26])) (C 26 X (.exit 0))) (Q (.block 1 (Q (Q (O [m 29 0,m 30 3,o 31 (.ixs (t 29) (t 30)),m 4 31]) (Y [0,3,4])) (Q
 (Q (O [m 32 4,ac 33 .lss 32 (u 97),m 34 33,h 35 34 (.mv (t 4)),h 36 34 (.ar .gtr (t 35) (u 122)),pt 37 34 36,m 38 37,g 39 38 (.mv (t 4)),g 40 38 (.ar .lss (t 39) (u 48)),g
 41 38 (.mv (t 40)),h 42 41 (.mv (t 4)),h 43 41 (.ar .gtr (t 42) (u 57)),g 44 38 (.pk (t 41) T (t 43)),pf 45 38 44,m 46 45,g 47 46 (.mv (t 4)),g 48 46 (.ar .neq (t 47) (u
 45)),pf 49 46 48]) (Y [0,3,49])) (C 49 (rt 2 F) X)))) (ic 27 3 28)))
def iY:AC:=
 (Q (O [mc 2 F]) (Q (Q (Q (O [m 5 0,lt 6 5,ac 7 .eql 6 (i 0),m 8 7,h 9 8 (.mv (t 0)),h 10 8 (.len .str (t 9)),h 11 8 (.ar .gtr (t 10) (i 16)),pt 12 8 11,m 13 12,h 14 13 (.mv
 (t 0)),h 15 13 (.ixs (t 14) (i 0)),h 16 13 (.ar .lss (t 15) (u 97)),pt 17 13 16,m 18 17,h 19 18 (.mv (t 0)),h 20 18 (.ixs (t 19) (i 0)),h 21 18 (.ar .gtr (t 20) (u 122)),pt
 22 18 21]) (Y [0,22])) (C 22 (rt 2 F) X)) (Q (Q (O [mc 3 (i 0)]) (Q (.block 0 (lo [0,3] dM)) (Y []))) (rt 2 T))))
def eC:AFn:=⟨iY,50,[.t 2],.drop,[],none⟩
theorem fA:qf eC [.t 2] .drop:=⟨rfl,rfl,rfl⟩
def cD:AC:=
 (Q (O [mc 4 F]) (Q (Q (O [m 5 0,m 6 1,k2 7 cQ 5 6,ac 8 .geq 7 (i 0),m 4 8]) (Y [4])) R))
def cE:AFn:=⟨cD,9,[.t 4],.drop,[],none⟩
theorem gr:qf cE [.t 4] .drop:=⟨rfl,rfl,rfl⟩
def mT:AC:=
 (Q (O [o 1 (.bx ae (t 0)),mc 2 F]) (Q (O [fa 3 2 1,ld 4 3,m 2 4]) R))
def mU:AFn:=⟨mT,5,[.t 2],.drop,[],none⟩
theorem xX:qf mU [.t 2] .drop:=⟨rfl,rfl,rfl⟩
def o6:AC:=
 (Q (O [o 1 (.bx ae (t 0)),mc 2 F]) (Q (Q (O [fa 3 0 1,ld 4 3,ac 5 .neq 4 (u 1),m 2 5]) (Y [2])) R))
def o7:AFn:=⟨o6,6,[.t 2],.drop,[],none⟩
theorem Be:qf o7 [.t 2] .drop:=⟨rfl,rfl,rfl⟩
def cP:AC:=
 (Q (Q (Q (O [m 4 3,m 5 0,ls 6 5,bl 7 4 6]) (Y [0,3,7])) (C 7 X (.exit 0))) (Q (.block 1 (Q (Q (O [m 10 0,m 11 3,ia 12 3 10 11,fa 13 2 12,ld 14 13]) (Y [0,3,14])) (C 14
 (rt 2 F) X))) (ic 8 3 9)))
def ij:AC:=
 (Q (O [mc 2 F]) (Q (Q (O [mc 3 (i 0)]) (Q (.block 0 (lo [0,3] cP)) (Y []))) (rt 2 T)))
def dY:AFn:=⟨ij,15,[.t 2],.drop,[],none⟩
theorem dZ:qf dY [.t 2] .drop:=⟨rfl,rfl,rfl⟩
def c9:AC:=
 (Q (Q (Q (O [m 4 3,m 5 0,ls 6 5,bl 7 4 6]) (Y [0,3,7])) (C 7 X (.exit 0))) (Q (.block 1 (Q (Q (O [m 10 0,m 11 3,ia 12 3 10 11,fa 13 0 12,ld 14 13,ac 15 .neq 14 (u 1)]) (Y
 [0,3,15])) (C 15 (rt 2 F) X))) (ic 8 3 9)))
def iZ:AC:=
 (Q (O [mc 2 F]) (Q (Q (O [mc 3 (i 0)]) (Q (.block 0 (lo [0,3] c9)) (Y []))) (rt 2 T)))
def eD:AFn:=⟨iZ,16,[.t 2],.drop,[],none⟩
theorem eE:qf eD [.t 2] .drop:=⟨rfl,rfl,rfl⟩
def kR:AC:=
 (Q (Q (O [m 57 8,m 58 9,bl 59 57 58]) (C 59 X (.exit 1))) (.block 2 (Q (Q (Q (O [m 60 0,m 61 8,o 62 (.ixs (t 60) (t 61)),m 63 6,ar 64 .neq 62 63]) (Y [0,1,5,6,7,8,9,10,
 64])) (C 64 (Q (Q (O [m 65 0,m 66 8,ad 67 66,m 68 9,o 69 (.sls (t 65) (some (t 67)) (some (t 68))),m 70 6,k2 71 cK 69 70,m 11 71]) (Y [0,1,5,
 6,7,8,9,10,11])) (Q (Q (O [m 72 11,ac 73 .lss 72 (i 0)]) (C 73 (rt 4 (i (-1))) X)) (Q (O [m 74 8,m 75 11,ad 76 75,ar 77 .add 74 76,m 8 77]) (Y [0,1,5,6,7,8,9,
 10])))) X)) (Q (Q (Q (O [m 78 0,m 79 8,ad 80 79,o 81 (.ixs (t 78) (t 80)),m 82 7,ar 83 .eql 81 82,m 84 83,g 85 84 (.mv (t 0)),g 86 84 (.mv (t 8)),g 87 84 (.mv (t 8)),g 88
 84 (.mv (t 5)),g 89 84 (.ar .add (t 87) (t 88)),g 90 84 (.sls (t 85) (some (t 86)) (some (t 89))),g 91 84 (.mv (t 1)),g 92 84 (.ar .eql (t 90) (t 91)),pf 93 84 92]) (Y [0,1,
 5,6,7,8,9,10,93])) (C 93 (Q (O [m 94 8,m 4 94]) R) X)) (Q (ic 95 8 96) (Q (ic 97 10 98) (Q (Q (O [m 99 5,o 100 (.ld none (.c .unk)),ar 101 .leq 99 100,m 102 101,g 103 102
 (.mv (t 10)),g 104 102 (.mv (t 8)),⟨(some 105),(some (102,true)),(.call (.c (.fn (.func eZ) [] [])) [(.t 104)])⟩,g 106 102 (.ar .gtr (t 103) (t 105)),
 pf 107 102 106]) (Y [0,1,5,6,7,8,9,10,107])) (C 107 (Q (Q (O [m 108 0,m 109 8,o 110 (.sls (t 108) (some (t 109)) none),m 111 1,k2 112 eb 110
 111,m 12 112]) (Y [8,12])) (Q (Q (O [m 113 12,ac 114 .geq 113 (i 0)]) (C 114 (Q (Q (O [m 115 12,m 116 8,ar 117 .add 115 116,m 4 117]) (Y [4])) R) X)) (rt 4 (i (-1))))) (Q (Q
 (O [m 118 5,o 119 (.ld none (.c .unk)),ar 120 .gtr 118 119,m 121 120,g 122 121 (.mv (t 10)),g 123 121 (.mv (t 8)),g 124 121 (.sh .shr (t 123) (.c (.int .u64 4))),g 125 121
 (.ar .add (i 4) (t 124)),g 126 121 (.ar .geq (t 122) (t 125)),pf 127 121 126,m 128 127,g 129 128 (.mv (t 8)),g 130 128 (.mv (t 9)),g 131 128 (.ar .lss (t 129) (t 130)),pf 132
 128 131]) (Y [0,1,5,6,7,8,9,10,132])) (C 132 (Q (Q (O [m 133 0,m 134 8,o 135 (.sls (t 133) (some (t 134)) none),m 136 1,k2 137 gS
 135 136,m 13 137]) (Y [8,13])) (Q (Q (O [m 138 13,ac 139 .lss 138 (i 0)]) (C 139 (rt 4 (i (-1))) X)) (Q (Q (O [m 140 8,m 141 13,ar 142 .add 140 141,m 4 142]) (Y [4])) R)))
 X))))))))))
def lL:AC:=
 (Q (O [mc 4 (i 0)]) (Q (O [m 14 1,lt 15 14,m 5 15]) (Q (.block 0 (Q (Q (O [m 17 5,ac 18 .eql 17 (i 0),m 19 18,h 20 19 (.mv (t 1)),h 21 19 (.mv (t 0)),h 22 19 (.ar .eql (t 20)
 (t 21)),pt 23 19 22,m 16 23]) (Y [0,1,5,16])) (C 16 (rt 4 (i 0)) (Q (O [m 25 5,ac 26 .eql 25 (i 1),m 24 26]) (C 24 (Q (Q (O [m 27 0,m 28 1,o 29 (.ixs (t 28) (i 0)),k2 30
 cK 27 29,m 4 30]) (Y [4])) R) (Q (Q (O [m 32 5,m 33 0,lt 34 33,ar 35 .geq 32 34,m 31 35]) (Y [0,1,5,31])) (C 31 (rt 4 (i (-1))) (Q (Q (O [m 37
 5,o 38 (.ld none (.c .unk)),ar 39 .leq 37 38,m 40 39,g 41 40 (.mv (t 0)),g 42 40 (.len .str (t 41)),g 43 40 (.ar .leq (t 42) (i 64)),pf 44 40 43,m 36 44]) (Y [0,1,5,36]))
 (C 36 (Q (Q (O [m 45 0,m 46 1,k2 47 eb 45 46,m 4 47]) (Y [4])) R) X))))))))) (Q (O [m 48 1,o 49 (.ixs (t 48) (i 0)),m 6 49]) (Q (O [m 50 1,o 51
 (.ixs (t 50) (i 1)),m 7 51]) (Q (O [mc 8 (i 0)]) (Q (Q (O [m 52 0,lt 53 52,m 54 5,ar 55 .sub 53 54,ad 56 55,m 9 56]) (Y [0,1,5,6,7,8,9])) (Q (O [mc 10 (i 0)]) (Q (Q
 (.block 1 (lo [0,1,5,6,7,8,9,10] kR)) (Y [])) (rt 4 (i (-1))))))))))))
def eJ:AFn:=⟨lL,143,[.t 4],.drop,[],none⟩
def eK:AC:=
 (Q (Q (O [m 2 0,m 3 0,k1 4 fD 3,o 5 (.nc (t 2)),fa 6 3 5,n (.st 1 (t 6) (t 4))]) (Y [0])) (Q (O [m 7 0,o 8 (.nc (t 7)),fa 9 4 8,n (.st 1 (t 9) (.c
 (.slice .nil 1 [])))]) (Y [])))
def eL:AFn:=⟨eK,10,[],.keep,[],none⟩
theorem lM:qf eL [] .keep:=⟨rfl,rfl,rfl⟩
def au:AC:=
 (Q (O [bl 9 8 7]) (Q (C 9 X (.exit 0)) (Q (.block 1 (Q (O [m 10 8,m 5 10]) (Q (Q (O [m 11 1,m 12 0,m 13 5,ia 14 3 12 13,la 15 3 14,k 16 (t 11) [(t 15)]]) (Y [0,1,5,7,8,
 16])) (C 16 (Q (O [m 17 5,m 4 17]) R) X)))) (O [ad 18 8,m 8 18]))))
def bG:AC:=
 (Q (O [mc 4 (i 0)]) (Q (Q (O [m 6 0,ls 7 6,mc 8 (i 0)]) (Q (.block 0 (lo [0,1,7,8] au)) (Y []))) (rt 4 (i (-1)))))
def aW:AFn:=⟨bG,19,[.t 4],.drop,[],none⟩
theorem bH:qf aW [.t 4] .drop:=⟨rfl,rfl,rfl⟩
def kx:AC:=
 (Q (O [mc 4 (i 0)]) (Q (Q (O [m 5 0,m 6 1,k2 7 bQ 5 6,m 4 7]) (Y [4])) R))
def dN:AFn:=⟨kx,8,[.t 4],.drop,[],none⟩
def mV:AC:=
 (Q (O [mc 2 (i 0)]) (Q (Q (O [m 3 0,ac 4 .add 3 (i 16),ac 5 .quo 4 (i 8),m 2 5]) (Y [2])) R))
def i0:AFn:=⟨mV,6,[.t 2],.drop,[],none⟩
def gk:AC:=
 (Q (Q (O [m 18 9,m 19 7,bl 20 18 19]) (C 20 X (.exit 0))) (Q (.block 1 (Q (O [m 23 8,o 24 (.ar .mul (t 23) (.c (.int .u32 16777619))),m 25 0,m 26 9,o 27 (.ixs (t 25) (t 26)),
 o 28 (.cvi .u32 (t 27)),ar 29 .add 24 28,m 8 29]) (Y [0,1,5,6,7,8,9]))) (ic 21 9 22)))
def gl:AC:=
 (Q (Q (Q (O [m 41 10,m 42 0,lt 43 42,bl 44 41 43]) (Y [0,1,5,6,7,8,10,44])) (C 44 X (.exit 2))) (.block 3 (Q (O [m 45 8,o 46 (.ar .mul (t 45) (.c (.int .u32 16777619))),
 m 8 46]) (Q (Q (O [m 47 8,m 48 0,m 49 10,o 50 (.ixs (t 48) (t 49)),o 51 (.cvi .u32 (t 50)),ar 52 .add 47 51,m 8 52]) (Y [0,1,5,6,7,8,10])) (Q (Q (O [m 53 8,m 54 6,m 55
 0,m 56 10,m 57 7,ar 58 .sub 56 57,o 59 (.ixs (t 55) (t 58)),o 60 (.cvi .u32 (t 59)),ar 61 .mul 54 60,ar 62 .sub 53 61,m 8 62]) (Y [0,1,5,6,7,8,10])) (Q (ic 63 10 64)
 (Q (Q (O [m 65 8,m 66 5,ar 67 .eql 65 66,m 68 67,g 69 68 (.mv (t 0)),g 70 68 (.mv (t 10)),g 71 68 (.mv (t 7)),g 72 68 (.ar .sub (t 70) (t 71)),g 73 68 (.mv (t 10)),g 74 68
 (.sls (t 69) (some (t 72)) (some (t 73))),g 75 68 (.mv (t 1)),g 76 68 (.ar .eql (t 74) (t 75)),pf 77 68 76]) (Y [0,1,5,6,7,8,10,77])) (C 77 (Q (Q (O [m 78 10,m 79 7,ar
 80 .sub 78 79,m 4 80]) (Y [4])) R) X))))))))
def ik:AC:=
 (Q (O [mc 4 (i 0)]) (Q (Q (O [m 12 1,k1 13 jU 12,m 11 13,ex 14 11 0,ex 15 11 1,m 5 14,m 6 15]) (Y [0,1,5,6])) (Q (O [m 16 1,lt 17 16,m 7
 17]) (Q (O [mc 8 (.c (.int .u32 0))]) (Q (Q (O [mc 9 (i 0)]) (Q (.block 0 (lo [0,1,5,6,7,8,9] gk)) (Y [0,1,5,6,7,8]))) (Q (Q (Q (O
 [m 30 8,m 31 5,ar 32 .eql 30 31,m 33 32,g 34 33 (.mv (t 0)),g 35 33 (.mv (t 7)),g 36 33 (.sls (t 34) none (some (t 35))),g 37 33 (.mv (t 1)),g 38 33 (.ar .eql (t 36) (t
 37)),pf 39 33 38]) (Y [0,1,5,6,7,8,39])) (C 39 (rt 4 (i 0)) X)) (Q (Q (O [m 40 7,m 10 40]) (Q (.block 2 (lo [0,1,5,6,7,8,10]
 gl)) (Y []))) (rt 4 (i (-1))))))))))
def ea:AFn:=⟨ik,81,[.t 4],.drop,[],none⟩
def cV:AC:=
 (Q (Q (Q (O [m 37 5,m 38 3,ls 39 38,bl 40 37 39]) (Y [3,4,5,40])) (C 40 X (.exit 0))) (Q (.block 1 (Q (Q (Q (O [m 43 3,m 44 5,ia 45 1 43 44,ld 46 45,lt 47 46,ac 48 .neq
 47 (i 1)]) (Y [3,4,5,48])) (C 48 (Q (Q (O [m 49 3,k1 50 lr 49,o 51 (.mi ml (t 50)),m 2 51]) (Y [2])) R) X)) (Q (Q (O [m 52
 3,m 53 5,ad 54 53,ia 55 1 52 54,ld 56 55,lt 57 56,ac 58 .neq 57 (i 1)]) (Y [3,4,5,58])) (C 58 (O [mc 4 F]) X)))) (O [m 41 5,ac 42 .add 41 (i 2),m 5 42])))
def mW:AC:=
 (Q (O [ac 62 .lss 61 (i 256)]) (Q (C 62 X (.exit 2)) (Q (.block 3 (Q (O [m 63 61,m 7 63]) (Q (O [m 64 7,m 65 7,o 66 (.cvi .u8 (t 65)),o 67 (.iaa 256 1 (t 6) (t 64)),n (.st 1 (t
 67) (t 66))]) (Y [3,6,61])))) (O [ad 68 61,m 61 68]))))
def mX:AC:=
 (Q (Q (O [m 72 8,ac 73 .geq 72 (i 0)]) (C 73 X (.exit 4))) (Q (.block 5 (Q (Q (O [m 76 3,m 77 8,ia 78 1 76 77,ld 79 78,o 80 (.ixs (t 79) (i 0)),m 9 80]) (Y [3,6,8,9])) (Q
 (Q (O [m 81 3,m 82 8,ad 83 82,ia 84 1 81 83,ld 85 84,o 86 (.ixs (t 85) (i 0)),m 10 86]) (Y [3,6,8,9,10])) (Q (O [m 87 9,m 88 10,o 89 (.iaa 256 1 (t 6) (t 87)),n (.st 1
 (t 89) (t 88))]) (Y [3,6,8]))))) (O [m 74 8,ac 75 .sub 74 (i 2),m 8 75])))
def cW:AC:=
 (Q (Q (O [m 99 12,ac 100 .geq 99 (i 0)]) (C 100 X (.exit 6))) (Q (.block 7 (Q (Q (O [m 103 3,m 104 12,ia 105 1 103 104,ld 106 105,o 107 (.ixs (t 106) (i 0)),m 13 107]) (Y [3,
 11,12,13])) (Q (Q (O [m 108 3,m 109 12,ad 110 109,ia 111 1 108 110,ld 112 111,m 14 112]) (Y [3,11,12,13,14])) (Q (Q (Q (O [m 113 13,fa 114 0 11,o 115 (.iaa 256 1 (t
 114) (t 113)),ld 116 115,o 117 (.eq false .sl (t 116) (.c (.slice .nil 0 [])))]) (Y [3,11,12,13,14,117])) (C 117 (Q (O [fa 118 256 11,ld 119 118,m 120 13,o 121 (.bs 1
 [(.int .u8 0)] 1 [(0,(t 120))]),o 122 (.cvbs (t 121)),o 123 (.bs 1 [(.str [])] 1 [(0,(t 122))]),o 124 (.ap false aO 1 16 false (t 119) (t 123)),fa 125 256 11,n (.st 1
 (t 125) (t 124))]) (Y [3,11,12,13,14])) X)) (Q (O [m 126 13,m 127 14,o 128 (.cvsb (t 127)),fa 129 0 11,o 130 (.iaa 256 1 (t 129) (t 126)),n (.st 1 (t 130) (t 128))]) (Y [3,
 11,12])))))) (O [m 101 12,ac 102 .sub 101 (i 2),m 12 102])))
def fH:AC:=
 (Q (O [mc 2 (.c .nilif)]) (Q (Q (O [m 15 0,o 16 (.nc (t 15)),fa 17 4 16,ld 18 17,m 3 18]) (Y [3])) (Q (Q (Q (O [m 19 3,ls 20 19,ac 21 .eql 20 (i 2),m 22 21,g 23 22 (.mv (t
 3)),g 24 22 (.ias 1 (t 23) (i 0)),g 25 22 (.ld none (t 24)),g 26 22 (.len .str (t 25)),g 27 22 (.ar .gtr (t 26) (i 1)),pf 28 22 27]) (Y [3,28])) (C 28 (Q (Q (D [Pm 29 3,P (o
 30 (.ias 1 (t 29) (i 0))),Wl 31 30,Pm 32 3,P (o 33 (.ias 1 (t 32) (i 1))),Wl 34 33,E (k2 35 jJ 31 34),P (o 36 (.mi
 kr (t 35))),Pm 2 36]) (Y [2])) R) X)) (Q (O [mc 4 T]) (Q (Q (O [mc 5 (i 0)]) (Q (.block 0 (lo [3,4,5] cV)) (Y [3,4]))) (Q
 (Q (O [m 59 4]) (C 59 (Q (O [o 60 (.ba 1 (List.replicate 256 (.int .u8 0)) []),o 6 (.nw (List.replicate 256 (.int .u8 0)) oY),n (.st 256 (t 6) (t 60))]) (Q (Q
 (O [mc 61 (i 0)]) (Q (.block 2 (lo [3,6,61] mW)) (Y [3,6]))) (Q (Q (Q (O [m 69 3,ls 70 69,ac 71 .sub 70 (i 2),m 8 71]) (Y [3,6,8])) (Q (.block 4 (lo
 [3,6,8] mX)) (Y [6]))) (Q (O [o 90 (.mi nF (t 6)),m 2 90]) R)))) X)) (Q (Q (O [m 91 3,ls 92 91,ac 93 .quo 92 (i 2),o 94 (.ms
 aO 16 [(.str [])] (i 0) (t 93)),o 95 (.bd (List.replicate 257 (.slice .nil 1 [])) [(0,256),(256,1)] [(1,(t 94))]),o 11 (.nw (List.replicate 257 (.slice .nil 1 []))
 aT),n (.st 257 (t 11) (t 95))]) (Y [3,11])) (Q (Q (Q (O [m 96 3,ls 97 96,ac 98 .sub 97 (i 2),m 12 98]) (Y [3,11,12])) (Q (.block 6 (lo [3,11,12]
 cW)) (Y [11]))) (Q (O [o 131 (.mi aZ (t 11)),m 2 131]) R)))))))))
def fI:AFn:=⟨fH,132,[.t 2],.keep,[],none⟩
theorem bF:qf fI [.t 2] .keep:=⟨rfl,rfl,rfl⟩
def jD:AC:=
 (Q (Q (Q (O [m 9 5,m 10 0,lt 11 10,bl 12 9 11]) (Y [0,4,5,12])) (C 12 X (.exit 0))) (Q (.block 1 (Q (O [m 15 4,o 16 (.ar .mul (t 15) (.c (.int .u32 16777619))),m 17 0,m 18
 5,o 19 (.ixs (t 17) (t 18)),o 20 (.cvi .u32 (t 19)),ar 21 .add 16 20,m 4 21]) (Y [0,4,5]))) (ic 13 5 14)))
def jE:AC:=
 (Q (Q (O [m 24 8,ac 25 .gtr 24 (i 0)]) (C 25 X (.exit 2))) (Q (.block 3 (Q (Q (O [m 28 8,ac 29 .and 28 (i 1),ac 30 .neq 29 (i 0)]) (C 30 (Q (O [m 31 6,m 32 7,ar 33 .mul 31 32,
 m 6 33]) (Y [4,6,7,8])) X)) (Q (O [m 34 7,m 35 7,ar 36 .mul 34 35,m 7 36]) (Y [4,6,7,8])))) (O [m 26 8,o 27 (.sh .shr (t 26) (.c (.int .u64 1))),m 8 27])))
def jV:AC:=
 (Q (O [mc 2 (.c (.int .u32 0)),mc 3 (.c (.int .u32 0))]) (Q (O [mc 4 (.c (.int .u32 0))]) (Q (Q (O [mc 5 (i 0)]) (Q (.block 0 (lo [0,4,5] jD)) (Y
 [0,4]))) (Q (O [mc 6 (.c (.int .u32 1)),mc 7 (.c (.int .u32 16777619))]) (Q (Q (O [m 22 0,lt 23 22,m 8 23]) (Q (.block 2 (lo [4,6,7,8] jE))
 (Y [4,6]))) (Q (Q (O [m 37 4,m 38 6,m 2 37,m 3 38]) (Y [2,3])) R))))))
def fp:AFn:=⟨jV,39,[.t 2,.t 3],.drop,[],none⟩
def aX:AC:=
 (Q (O [bl 33 32 31]) (Q (C 33 X (.exit 0)) (Q (.block 1 (Q (O [ia 34 1 30 32,ld 35 34,m 8 35]) (Q (Q (O [m 36 1,m 37 8,k2 38 lH 36 37,m 9 38]) (Y [0,1,5,6,8,
 9,30,31,32])) (Q (O [m 39 9,ac 40 .neq 39 (i 0)]) (C 40 (Q (Q (D [Pm 41 5,Pm 42 9,Pm 43 0,Pm 44 8,P (o 45 (.ixs (t 44) (i 0))),P (o 46 (.nc (t 43))),Pf 47 0 46,P (o 48
 (.iaa 256 1 (t 47) (t 45))),Wl 49 48,W (ls 50 49),P (ac 51 .sub 50 (i 1)),P (ar 52 .mul 42 51),P (ar 53 .add 41 52),Pm 5 53]) (Y [0,1,5,30,31,32])) (O [mc 6 T])) X)))))
 (O [ad 54 32,m 32 54]))))
def aY:AC:=
 (Q (Q (Q (O [m 55 10,m 56 1,lt 57 56,bl 58 55 57]) (Y [0,1,5,6,10,58])) (C 58 X (.exit 2))) (Q (.block 3 (Q (Q (O [m 61 1,m 62 10,o 63 (.ixs (t 61) (t 62)),m 11 63]) (Y
 [0,1,5,6,10,11])) (Q (Q (O [m 64 0,m 65 11,o 66 (.nc (t 64)),fa 67 0 66,o 68 (.iaa 256 1 (t 67) (t 65)),ld 69 68,o 70 (.eq true .sl (t 69) (.c (.slice .nil 0 [])))]) (Y
 [0,1,5,6,10,11,70])) (C 70 (Q (Q (O [m 71 5,m 72 0,m 73 11,o 74 (.nc (t 72)),fa 75 0 74,o 76 (.iaa 256 1 (t 75) (t 73)),ld 77 76,ls 78 77,ac 79 .sub 78 (i 1),ar 80
 .add 71 79,m 5 80]) (Y [0,1,5,10])) (O [mc 6 T])) X)))) (ic 59 10 60)))
def br:AC:=
 (Q (Q (Q (O [m 86 14,m 87 1,lt 88 87,bl 89 86 88]) (Y [0,1,12,13,14,89])) (C 89 X (.exit 4))) (Q (.block 5 (Q (Q (O [m 92 1,m 93 14,o 94 (.ixs (t 92) (t 93)),m 15 94]) (Y
 [0,1,12,13,14,15])) (Q (Q (O [m 95 0,m 96 15,o 97 (.nc (t 95)),fa 98 0 97,o 99 (.iaa 256 1 (t 98) (t 96)),ld 100 99,o 101 (.eq true .sl (t 100) (.c (.slice .nil 0 [])))])
 (Y [0,1,12,13,14,15,101])) (C 101 (Q (D [Pm 102 13,Pm 103 12,Pm 104 13,P (o 105 (.sll 1 (t 103) (some (t 104)) none none)),Pm 106 0,Pm 107 15,P (o 108 (.nc (t 106))),Pf
 109 0 108,P (o 110 (.iaa 256 1 (t 109) (t 107))),Wl 111 110,E (o 112 (.cp 1 false (t 105) (t 111))),P (ar 113 .add 102 112),Pm 13 113]) (Y [0,1,12,13,14])) (Q (Q (O [m 114
 12,m 115 13,m 116 15,ia 117 1 114 115,n (.st 1 (t 117) (t 116))]) (Y [0,1,12,13,14])) (ic 118 13 119)))))) (ic 90 14 91)))
def de:AC:=
 (Q (O [mc 4 (s [])]) (Q (O [m 16 1,lt 17 16,m 5 17]) (Q (O [mc 6 F]) (Q (Q (Q (O [m 18 0,o 19 (.nc (t 18)),fa 20 256 19,ld 21 20,ls 22 21,ac 23 .mul 22 (i 8),m 24 1,lt 25
 24,ar 26 .leq 23 25]) (Y [0,1,5,6,26])) (C 26 (Q (Q (O [m 27 0,o 28 (.nc (t 27)),fa 29 256 28,ld 30 29,ls 31 30,mc 32 (i 0)]) (Y [0,1,5,6,30,31,32])) (Q (.block 0
 (lo [0,1,5,6,30,31,32] aX)) (Y [0,1,5,6]))) (Q (O [mc 10 (i 0)]) (Q (.block 2 (lo [0,1,5,6,10]
 aY)) (Y [0,1,5,6]))))) (Q (Q (O [m 81 6,no 82 81]) (C 82 (Q (O [m 83 1,m 4 83]) R) X)) (Q (O [m 84 5,o 85 (.ms dk 1 [(.int .u8 0)] (t
 84) (t 84)),m 12 85]) (Q (O [mc 13 (i 0)]) (Q (Q (O [mc 14 (i 0)]) (Q (.block 4 (lo [0,1,12,13,14] br)) (Y [12]))) (Q (O [m 120 12,o 121
 (.cvbs (t 120)),m 4 121]) R)))))))))
def aD:AFn:=⟨de,122,[.t 4],.drop,[],none⟩
theorem aE:qf aD [.t 4] .drop:=⟨rfl,rfl,rfl⟩
def tD:AC:=
 (.block 1 (Q (Q (O [m 20 0,m 21 1,k2 22 lF 20 21,m 6 22]) (Y [0,1,5,6])) (Q (Q (O [m 23 6,ac 24 .eql 23 (i (-1))]) (C 24 (Q (O [m 25 5,m 4 25]) R) X)) (Q (ic 26
 5 27) (Q (O [m 28 0,m 29 6,m 30 1,lt 31 30,ar 32 .add 29 31,o 33 (.sls (t 28) (some (t 32)) none),m 0 33]) (Y [0,1,5]))))))
def lN:AC:=
 (Q (O [mc 4 (i 0)]) (Q (Q (O [m 7 1,lt 8 7,ac 9 .eql 8 (i 0)]) (C 9 (Q (Q (O [m 10 0,k1 11 kp 10,ad 12 11,m 4 12]) (Y [4])) R) X)) (Q (Q (O [m 13
 1,lt 14 13,ac 15 .eql 14 (i 1)]) (C 15 (Q (Q (O [m 16 0,m 17 1,o 18 (.ixs (t 17) (i 0)),k2 19 b7 16 18,m 4 19]) (Y [4])) R) X)) (Q (O [mc 5 (i 0)])
 (Q (.block 0 (lo [0,1,5] tD)) (Y []))))))
def lO:AFn:=⟨lN,34,[.t 4],.drop,[],none⟩
theorem vC:qf lO [.t 4] .drop:=⟨rfl,rfl,rfl⟩
def jM:AC:=
 (Q (O [o 5 (.nx (t 4)),ex 6 5 0]) (Q (C 6 X (.exit 0)) (.block 1 (ic 7 2 8))))
def ky:AC:=
 (Q (O [mc 2 (i 0)]) (Q (Q (O [m 3 0,o 4 (.rg (t 3))]) (Q (.block 0 (lo [2,4] jM)) (Y [2]))) (Q (O [m 9 2,m 2 9]) R)))
def kz:AFn:=⟨ky,10,[.t 2],.drop,[],none⟩
end
section
open Sh
def o8:AC:=
 (Q (O [mc 0 F]) (Q (O [k 15 (f Co) [(s [97,32,92,60,98,62,32,60,98,62,120,60,47,98,62,123,110,125])],m 14 15,ex 16 14 0,ex 17 14 1,m 1 16,m 2 17]) (Q
 (O [k 18 (f bq) [(s [97,32,60,98,62,32])],k 19 (f du) [(s [98])],k 20 (f bq) [(s [120])],k 21 (f dv)
 [(s [98])],o 22 (.bd [(.int .u8 0),(.str []),(.bool false)] [(0,1),(1,1),(2,1)] [(0,(u 5)),(1,(s [110]))]),o 23 (.bs 3 [(.int .u8 0),(.str []),(.bool false)] 5 [(0,(t
 18)),(1,(t 19)),(2,(t 20)),(3,(t 21)),(4,(t 22))]),m 3 23]) (Q (O [o 25 (.bd [(.str []),(.str []),(.bool false)] [(0,1),(1,1),(2,1)] [(0,(s [37,98,68,114,46,
 37,115]))]),o 26 (.bd [(.str []),(.str []),(.bool false)] [(0,1),(1,1),(2,1)] [(0,(s [37,112,37,115])),(1,(s [37,117])),(2,T)]),o 27 (.bs 3 [(.str []),(.str []),
 (.bool false)] 2 [(0,(t 25)),(1,(t 26))]),k 28 (f bq) [(s [68,114,46,32,65,32,105,115,32,105,110,46,32,71,111])],o 29 (.bs 3 [(.int .u8 0),
 (.str []),(.bool false)] 1 [(0,(t 28))]),k2 30 yT 27 29,m 24 30,ex 31 24 0,ex 32 24 1,m 4 31,m 5 32]) (Q (O [k 34 (f du) [(s [98])],k 35 (f
 bq) [(s [79,110,101,46,32,84,119,111])],k 36 (f dv) [(s [98])],o 37 (.bs 3 [(.int .u8 0),(.str []),(.bool false)] 3 [(0,(t 34)),(1,
 (t 35)),(2,(t 36))]),o 38 (.bs 1 [(.int .i64 0)] 1 [(0,(i 5))]),k2 39 DF 37 38,m 33 39,ex 40 33 0,ex 41 33 1,m 6 40,m 7 41]) (Q (O [k 43 (f bq)
 [(s [72,105,44,32])],k 44 (f du) [(s [98])],k 45 (f bq) [(s [121,111,117])],k 46 (f dv) [(s [98])],k 47 (f
 bq) [(s [33])],o 48 (.bs 3 [(.int .u8 0),(.str []),(.bool false)] 5 [(0,(t 43)),(1,(t 44)),(2,(t 45)),(3,(t 46)),(4,(t 47))]),k1 49 tz 48,m
 42 49,ex 50 42 0,ex 51 42 1,m 8 50,m 9 51]) (Q (O [k 53 (f du) [(s [98])],k 54 (f bq) [(s [114,101,100])],k 55 (f dv)
 [(s [98])],k 56 (f bq) [(s [32,104,111,117,115,101])],o 57 (.bs 3 [(.int .u8 0),(.str []),(.bool false)] 4 [(0,(t 53)),(1,(t 54)),(2,(t 55)),(3,(t
 56))]),o 58 (.bs 1 [(.str [])] 2 [(0,(s [99,97,115,97])),(1,(s [114,111,106,97]))]),o 59 (.bd [(.int .i64 0),(.int .i64 0)] [(0,1),(1,1)] [(0,(i 0)),(1,(i 1))]),o
 60 (.bd [(.int .i64 0),(.int .i64 0)] [(0,1),(1,1)] [(0,(i 1)),(1,(i 0))]),o 61 (.bs 2 [(.int .i64 0),(.int .i64 0)] 2 [(0,(t 59)),(1,(t 60))]),k 62 (f xL)
 [(t 57),(t 58),(t 61)],m 52 62,ex 63 52 0,ex 64 52 1,m 10 63,m 11 64]) (Q (Q (O [m 65 2,ac 66 .neq 65 (u 0),m 67 66,h 68 67 (.mv (t 5)),h 69 67 (.ar .neq (t 68) (u 0)),
 pt 70 67 69,m 71 70,h 72 71 (.mv (t 7)),h 73 71 (.ar .neq (t 72) (u 0)),pt 74 71 73,m 75 74,h 76 75 (.mv (t 9)),h 77 75 (.ar .neq (t 76) (u 0)),pt 78 75 77,m 79 78,h 80 79
 (.mv (t 11)),h 81 79 (.ar .neq (t 80) (u 0)),pt 82 79 81,m 83 82,h 84 83 (.mv (t 4)),h 85 83 (.len .sl (t 84)),h 86 83 (.ar .neq (t 85) (i 1)),pt 87 83 86,m 88 87,h 89 88
 (.mv (t 4)),h 90 88 (.ias 1 (t 89) (i 0)),h 91 88 (.ld none (t 90)),h 92 88 (.ar .neq (t 91) (i 13)),pt 93 88 92,m 94 93,h 95 94 (.mv (t 6)),h 96 94 (.len .sl (t 95)),h 97
 94 (.ar .neq (t 96) (i 2)),pt 98 94 97]) (C 98 (rt 0 F) X)) (Q (O [o 99 (.bd [(.int .u8 0),(.str []),(.bool false)] [(0,1),(1,1),(2,1)] [(0,(u 3)),(1,(s [98])),(2,T)]),
 o 12 (.nw [(.int .u8 0),(.str []),(.bool false)] ae),n (.st 3 (t 12) (t 99))]) (Q (O [o 100 (.bd [(.int .u8 0),(.str []),(.bool false)] [(0,1),(1,1),(2,1)] [(0,
 (u 2)),(1,(s [98])),(2,T)]),o 13 (.nw [(.int .u8 0),(.str []),(.bool false)] ae),n (.st 3 (t 13) (t 100))]) (Q (D [Pm 101 1,Pm 102 3,K (k2 103
 bP 101 102),Pm 104 103,P (g 105 104 (.mv (t 6))),P (g 106 104 (.ias 1 (t 105) (i 0))),W (g 107 104 (.ld none (t 106))),W (g 110 104 (.ld (some 3) (t
 12))),K (⟨(some 108),(some (104,true)),(.call (.c (.fn (.func du) [] [])) [(.c (.str [98]))])⟩),K (⟨(some 109),(some (104,true)),(.call (.c (.fn (.func
 bq) [] [])) [(.c (.str [79,110,101,46,32]))])⟩),P (g 111 104 (.bs 3 [(.int .u8 0),(.str []),(.bool false)] 3 [(0,(t 108)),(1,(t 109)),(2,(t 110))])),K
 (⟨(some 112),(some (104,true)),(.call (.c (.fn (.func bP) [] [])) [(.t 107),(.t 111)])⟩),P (pf 113 104 112),Pm 114 113,P (g 115 114 (.mv (t 6))),P (g
 116 114 (.ias 1 (t 115) (i 1))),W (g 117 114 (.ld none (t 116))),W (g 118 114 (.ld (some 3) (t 13))),K (⟨(some 119),(some (114,true)),(.call (.c (.fn (.func
 bq) [] [])) [(.c (.str [84,119,111]))])⟩),K (⟨(some 120),(some (114,true)),(.call (.c (.fn (.func dv) [] [])) [(.c (.str [98]))])⟩),P (g
 121 114 (.bs 3 [(.int .u8 0),(.str []),(.bool false)] 3 [(0,(t 118)),(1,(t 119)),(2,(t 120))])),K (⟨(some 122),(some (114,true)),(.call (.c (.fn (.func
 bP) [] [])) [(.t 117),(.t 121)])⟩),P (pf 123 114 122),Pm 124 123,P (g 125 124 (.mv (t 8))),P (g 126 124 (.bs 1 [(.str [])] 6 [(0,(s [72,105])),(1,(s
 [44])),(2,(s [60,98,62])),(3,(s [121,111,117])),(4,(s [60,47,98,62])),(5,(s [33]))])),K (⟨(some 127),(some (124,true)),(.call (.c (.fn (.func
 qF) [] [])) [(.t 125),(.t 126)])⟩),P (pf 128 124 127),Pm 129 128,P (g 130 129 (.mv (t 10))),K (⟨(some 131),(some (129,true)),(.call (.c (.fn (.func
 bq) [] [])) [(.c (.str [99,97,115,97,32]))])⟩),K (⟨(some 132),(some (129,true)),(.call (.c (.fn (.func du) [] [])) [(.c (.str [98]))])⟩),
 K (⟨(some 133),(some (129,true)),(.call (.c (.fn (.func bq) [] [])) [(.c (.str [114,111,106,97]))])⟩),K (⟨(some 134),(some (129,true)),(.call (.c (.fn
 (.func dv) [] [])) [(.c (.str [98]))])⟩),P (g 135 129 (.bs 3 [(.int .u8 0),(.str []),(.bool false)] 4 [(0,(t 131)),(1,(t 132)),(2,(t 133)),(3,(t
 134))])),K (⟨(some 136),(some (129,true)),(.call (.c (.fn (.func bP) [] [])) [(.t 130),(.t 135)])⟩),P (pf 137 129 136),Pm 0 137]) R)))))))))))
def o9:AFn:=⟨o8,138,[.t 0],.keep,[],none⟩
def xY:AC:=
 (Q X (Q (Q (O [m 76 7,k 77 (t 76) [],no 78 77]) (C 78 (Q (O [mc 2 (.c (.slice .nil 3 [])),mc 3 (u 4)]) R) X)) (Q (Q (O [ld 79 4,k1 80 bZ 79,m 11 80]) (Q (O [m
 81 11,ac 82 .neq 81 (u 0)]) (C 82 (Q (O [m 83 11,mc 2 (.c (.slice .nil 3 [])),m 3 83]) R) X))) (Q (O [ld 84 4,m 2 84,mc 3 (u 0)]) R))))
def xZ:AC:=
 (Q X (Q (Q (O [m 16 6,m 17 0,lt 18 17,ar 19 .eql 16 18]) (C 19 (.goto 0) X)) (Q (Q (O [m 20 0,m 21 6,o 22 (.ixs (t 20) (t 21)),m 8 22]) (Q (O [m 23 8]) (.block 0 (Q (O [ac 29
 .eql 23 (u 92),m 28 29]) (C 28 (Q (Q (O [m 30 6,ad 31 30,m 32 0,lt 33 32,ar 34 .eql 31 33,m 35 34,h 36 35 (.mv (t 0)),h 37 35 (.mv (t 6)),h 38 35 (.ar .add (t 37) (i 1)),h
 39 35 (.mv (t 6)),h 40 35 (.ar .add (t 39) (i 2)),h 41 35 (.sls (t 36) (some (t 38)) (some (t 40))),⟨(some 42),(some (35,false)),(.call (.c (.fn (.func mL) []
 [])) [(.c (.str [92,60,123])),(.t 41)])⟩,h 43 35 (.un .not (t 42)),pt 44 35 43]) (C 44 (Q (O [mc 2 (.c (.slice .nil 3 [])),mc 3 (u 4)]) R) X)) (Q (O [m 45 0,m 46 6,ad 47 46,
 o 48 (.ixs (t 45) (t 47)),k2 49 bf 5 48]) (O [m 50 6,ac 51 .add 50 (i 2),m 6 51]))) (Q (Q (O [ac 53 .eql 23 (u 60),m 52 53]) (C 52 X (O [ac 54 .eql 23
 (u 123),m 52 54]))) (C 52 (Q (O [m 56 0,m 57 6,o 58 (.sls (t 56) (some (t 57)) none),k1 59 nD 58,m 55 59,ex 60 55 0,ex 61 55 1,o 9 (.nw [(.int .u8 0),(.str []),
 (.bool false)] ae),n (.st 3 (t 9) (t 60)),m 10 61]) (Q (Q (O [m 62 10,ac 63 .eql 62 (i 0),m 64 63,h 65 64 (.mv (t 7)),⟨(some 66),(some (64,false)),(.call (.t 65)
 [])⟩,h 67 64 (.un .not (t 66)),pt 68 64 67]) (C 68 (Q (O [mc 2 (.c (.slice .nil 3 [])),mc 3 (u 4)]) R) X)) (Q (O [ld 69 4,la 70 3 9,o 71 (.bs 3 [(.int .u8 0),(.str []),(.bool
 false)] 1 [(0,(t 70))]),o 72 (.ap false ae 3 32 false (t 69) (t 71)),n (.st 1 (t 4) (t 72))]) (O [m 73 6,m 74 10,ar 75 .add 73 74,m 6 75])))) (Q (O [m 24 8,k2 25
 bf 5 24]) (ic 26 6 27))))))))) (Q (.goto 1) (Q (.lbl 0) (Q (Q (O [m 76 7,k 77 (t 76) [],no 78 77]) (C 78 (Q (O [mc 2 (.c (.slice .nil 3 [])),mc 3 (u 4)])
 R) X)) (Q (Q (O [ld 79 4,k1 80 bZ 79,m 11 80]) (Q (O [m 81 11,ac 82 .neq 81 (u 0)]) (C 82 (Q (O [m 83 11,mc 2 (.c (.slice .nil 3 [])),m 3 83]) R) X))) (Q (O [ld
 84 4,m 2 84,mc 3 (u 0)]) R))))))))
def Bf:AC:=
 (Q (O [mc 2 (.c (.slice .nil 3 [])),mc 3 (u 0)]) (.scope (Q (Q (O [m 12 0,lt 13 12,ac 14 .gtr 13 (i 65536)]) (C 14 (Q (O [mc 2 (.c (.slice .nil 3 [])),mc 3 (u 3)]) R) X)) (Q (O
 [o 4 (.nw [(.slice .nil 3 [])] a8)]) (Q (O [o 5 (.nwb [.nilp,(.slice .nil 1 [])] aq 1 dk)]) (Q (O [mc 6 (i 0)]) (Q (O [o 15 (.mf (.func
 yU) [] [(t 5),(t 4)]),m 7 15]) (Q (.lbl 1) (Q (Q (O [m 16 6,m 17 0,lt 18 17,ar 19 .eql 16 18]) (C 19 (.goto 0) X)) (Q (Q (O [m 20 0,m 21 6,o 22 (.ixs (t 20) (t
 21)),m 8 22]) (Q (O [m 23 8]) (.block 0 (Q (O [ac 29 .eql 23 (u 92),m 28 29]) (C 28 (Q (Q (O [m 30 6,ad 31 30,m 32 0,lt 33 32,ar 34 .eql 31 33,m 35 34,h 36 35 (.mv (t 0)),h
 37 35 (.mv (t 6)),h 38 35 (.ar .add (t 37) (i 1)),h 39 35 (.mv (t 6)),h 40 35 (.ar .add (t 39) (i 2)),h 41 35 (.sls (t 36) (some (t 38)) (some (t 40))),⟨(some 42),(some (35,
 false)),(.call (.c (.fn (.func mL) [] [])) [(.c (.str [92,60,123])),(.t 41)])⟩,h 43 35 (.un .not (t 42)),pt 44 35 43]) (C 44 (Q (O [mc 2 (.c (.slice .nil 3
 [])),mc 3 (u 4)]) R) X)) (Q (O [m 45 0,m 46 6,ad 47 46,o 48 (.ixs (t 45) (t 47)),k2 49 bf 5 48]) (O [m 50 6,ac 51 .add 50 (i 2),m 6 51]))) (Q (Q (O
 [ac 53 .eql 23 (u 60),m 52 53]) (C 52 X (O [ac 54 .eql 23 (u 123),m 52 54]))) (C 52 (Q (O [m 56 0,m 57 6,o 58 (.sls (t 56) (some (t 57)) none),k1 59 nD 58,m 55 59,
 ex 60 55 0,ex 61 55 1,o 9 (.nw [(.int .u8 0),(.str []),(.bool false)] ae),n (.st 3 (t 9) (t 60)),m 10 61]) (Q (Q (O [m 62 10,ac 63 .eql 62 (i 0),m 64 63,h 65 64
 (.mv (t 7)),⟨(some 66),(some (64,false)),(.call (.t 65) [])⟩,h 67 64 (.un .not (t 66)),pt 68 64 67]) (C 68 (Q (O [mc 2 (.c (.slice .nil 3 [])),mc 3 (u 4)]) R) X)) (Q (O [ld
 69 4,la 70 3 9,o 71 (.bs 3 [(.int .u8 0),(.str []),(.bool false)] 1 [(0,(t 70))]),o 72 (.ap false ae 3 32 false (t 69) (t 71)),n (.st 1 (t 4) (t 72))]) (O [m 73 6,m
 74 10,ar 75 .add 73 74,m 6 75])))) (Q (O [m 24 8,k2 25 bf 5 24]) (ic 26 6 27))))))))) (Q (.goto 1) (Q (.lbl 0) (Q (Q (O [m 76 7,k 77 (t 76) [],no 78
 77]) (C 78 (Q (O [mc 2 (.c (.slice .nil 3 [])),mc 3 (u 4)]) R) X)) (Q (Q (O [ld 79 4,k1 80 bZ 79,m 11 80]) (Q (O [m 81 11,ac 82 .neq 81 (u 0)]) (C 82 (Q (O [m 83
 11,mc 2 (.c (.slice .nil 3 [])),m 3 83]) R) X))) (Q (O [ld 84 4,m 2 84,mc 3 (u 0)]) R))))))))))))) (.tab 0 xY (.tab 1 xZ X))))
def Bg:AFn:=⟨Bf,85,[.t 2,.t 3],.keep,[],none⟩
def mo:AFn:=b9.k
def rI:AFn:=ec.k
def pL:AC:=
 (Q (O [o 2 (.nw [(.int .u8 0),(.str []),(.bool false)] ae)]) (Q (O [m 3 0,o 4 (.bd [(.int .u8 0),(.str []),(.bool false)] [(0,1),(1,1),(2,1)] [(0,(u 1)),(1,(t
 3))]),n (.st 3 (t 2) (t 4))]) R))
def pM:AFn:=⟨pL,5,[.cell 2 (some 3)],.keep,[],none⟩
def pN:AC:=
 (Q (O [o 2 (.nw [(.int .u8 0),(.str []),(.bool false)] ae)]) (Q (O [m 3 0,o 4 (.bd [(.int .u8 0),(.str []),(.bool false)] [(0,1),(1,1),(2,1)] [(0,(u 2)),(1,(t
 3))]),n (.st 3 (t 2) (t 4))]) R))
def pO:AFn:=⟨pN,5,[.cell 2 (some 3)],.keep,[],none⟩
def pP:AC:=
 (Q (O [o 2 (.nw [(.int .u8 0),(.str []),(.bool false)] ae)]) (Q (O [m 3 0,o 4 (.bd [(.int .u8 0),(.str []),(.bool false)] [(0,1),(1,1),(2,1)] [(0,(u 3)),(1,(t
 3))]),n (.st 3 (t 2) (t 4))]) R))
def pQ:AFn:=⟨pP,5,[.cell 2 (some 3)],.keep,[],none⟩
def x6:AC:=
 (Q (O [mc 4 (.c (.slice .nil 1 [])),mc 5 (u 0)]) (Q (O [m 10 0,k1 11 vv 10,m 9 11,ex 12 9 0,ex 13 9 1,m 6 12,m 7 13]) (Q (Q (O [m 14 7,ac 15 .neq 14 (u 0)]) (C
 15 (Q (O [m 16 7,mc 4 (.c (.slice .nil 1 [])),m 5 16]) R) X)) (Q (Q (O [m 17 1,k1 18 bZ 17,m 8 18]) (Q (O [m 19 8,ac 20 .neq 19 (u 0)]) (C 20 (Q (O [m 21 8,mc
 4 (.c (.slice .nil 1 [])),m 5 21]) R) X))) (Q (O [m 22 6,m 23 1,k2 24 yV 22 23,m 4 24,mc 5 (u 0)]) R)))))
def x7:AFn:=⟨x6,25,[.t 4,.t 5],.keep,[],none⟩
def y7:AC:=
 (Q (O [bl 23 22 21]) (Q (C 23 X (.exit 0)) (Q (.block 1 (Q (O [m 24 22,ia 25 1 20 22,ld 26 25,m 8 24,m 9 26]) (Q (O [m 27 9,ac 28 .lss 27 (i 1),m 29 28,h 30 29 (.mv (t 9)),h
 31 29 (.mv (t 6)),h 32 29 (.ar .sub (t 31) (i 1)),h 33 29 (.ar .gtr (t 30) (t 32)),pt 34 29 33,m 35 34,h 36 35 (.mv (t 8)),h 37 35 (.ar .gtr (t 36) (i 0)),h 38 35 (.mv (t
 37)),g 39 38 (.mv (t 1)),g 40 38 (.mv (t 8)),g 41 38 (.ar .sub (t 40) (i 1)),g 42 38 (.ias 1 (t 39) (t 41)),g 43 38 (.ld none (t 42)),g 44 38 (.mv (t 9)),g 45 38 (.ar .geq (t
 43) (t 44)),h 46 35 (.pk (t 38) (t 45) F),pt 47 35 46]) (C 47 (Q (O [mc 4 (.c (.slice .nil 1 [])),mc 5 (u 1)]) R) X)))) (O [ad 48 22,m 22 48]))))
def Cs:AC:=
 (Q (O [mc 4 (.c (.slice .nil 1 [])),mc 5 (u 0)]) (Q (O [m 13 0,k1 14 A5 13,m 12 14,ex 15 12 0,ex 16 12 1,m 6 15,m 7 16]) (Q (Q (O [m 17 7,ac 18 .neq 17 (u 0)]) (C
 18 (Q (O [m 19 7,mc 4 (.c (.slice .nil 1 [])),m 5 19]) R) X)) (Q (Q (O [m 20 1,ls 21 20,mc 22 (i 0)]) (.block 0 (.loop ⟨none,[],false⟩ y7))) (Q (O [m 50 0,m 51 1,
 k2 52 DG 50 51,m 49 52,ex 53 49 0,ex 54 49 1,m 10 53,m 11 54]) (Q (Q (O [m 55 11,no 56 55]) (C 56 (Q (O [mc 4 (.c (.slice .nil 1 [])),mc 5 (u 3)]) R) X)) (Q (O [m 57
 10,m 4 57,mc 5 (u 0)]) R)))))))
def Ct:AFn:=⟨Cs,58,[.t 4,.t 5],.keep,[],none⟩
def vD:AC:=
 (.block 3 (Q (Q (O [la 33 2 9,k1 34 jl 33]) (C 34 (Q (O [ld 35 8,fa 36 0 9,ld 37 36,o 38 (.cvs (t 37)),ar 39 .add 35 38,n (.st 1 (t 8) (t 39))]) (.exit 3)) X))
 (Q (Q (O [ld 40 8,ac 41 .neq 40 (s [])]) (C 41 (Q (O [ld 42 5,ld 43 8,o 44 (.bs 1 [(.str [])] 1 [(0,(t 43))]),o 45 (.ap false aO 1 16 false (t 42) (t 44)),n (.st 1 (t 5)
 (t 45))]) (O [n (.st 1 (t 8) (s []))])) X)) (Q (O [la 46 2 9,k1 47 kO 46]) (C 47 (O [ld 48 5,fa 49 0 9,ld 50 49,o 51 (.cvs (t 50)),o 52 (.bs 1 [(.str [])] 1 [(0,
 (t 51))]),o 53 (.ap false aO 1 16 false (t 48) (t 52)),n (.st 1 (t 5) (t 53))]) X)))))
def vE:AC:=
 (Q (O [bl 18 17 16]) (Q (C 18 X (.exit 0)) (Q (.block 1 (Q (O [ia 19 3 15 17,la 20 3 19,o 7 (.nw [(.int .u8 0),(.str []),(.bool false)] ae),n (.st 3 (t 7) (t 20))]) (Q
 (Q (O [fa 21 0 7,ld 22 21,ac 23 .neq 22 (u 1)]) (C 23 (Q (D [Wl 24 5,W (la 25 3 7),K (k1 26 eY 25),P (o 27 (.bs 1 [(.str [])] 1 [(0,(t 26))])),E (o 28 (.ap false
 aO 1 16 false (t 24) (t 27))),E (n (.st 1 (t 5) (t 28)))]) (.exit 1)) X)) (Q (O [o 8 (.nw [(.str [])] aO),n (.st 1 (t 8) (s []))]) (Q (Q (O [la 29 3 7,o 30 (.bs 3
 [(.int .u8 0),(.str []),(.bool false)] 1 [(0,(t 29))]),k1 31 oU 30]) (.block 2 (.rfn (.t 31) [32] [[o 9 (.nw [(.int .i32 0),(.bool false)] di),n (.st 2 (t
 9) (t 32))]] vD))) (Q (O [ld 54 8,ac 55 .neq 54 (s [])]) (C 55 (O [ld 56 5,ld 57 8,o 58 (.bs 1 [(.str [])] 1 [(0,(t 57))]),o 59 (.ap false aO 1 16 false (t
 56) (t 58)),n (.st 1 (t 5) (t 59))]) X))))))) (O [ad 60 17,m 17 60]))))
def y8:AC:=
 (Q (O [mc 2 (.c (.slice .nil 1 [])),mc 3 (u 0)]) (Q (Q (O [m 10 0,k1 11 bZ 10,m 4 11]) (Q (O [m 12 4,ac 13 .neq 12 (u 0)]) (C 13 (Q (O [m 14 4,mc 2 (.c (.slice
 .nil 1 [])),m 3 14]) R) X))) (Q (O [o 5 (.nw [(.slice .nil 1 [])] Cq)]) (Q (Q (O [m 15 0,ls 16 15,mc 17 (i 0)]) (.block 0 (.loop ⟨none,[],false⟩ vE))) (Q
 (Q (O [ld 61 5,ls 62 61,ac 63 .gtr 62 (i 512)]) (C 63 (Q (O [mc 2 (.c (.slice .nil 1 [])),mc 3 (u 3)]) R) X)) (Q (O [ld 64 5,m 2 64,mc 3 (u 0)]) R))))))
def y9:AFn:=⟨y8,65,[.t 2,.t 3],.keep,[],none⟩
def tE:AC:=
 (Q (O [bl 50 49 48]) (Q (C 50 X (.exit 0)) (Q (.block 1 (Q (O [ia 51 2 47 49,la 52 2 51,o 13 (.nw [(.int .i64 0),(.int .i64 0)] z6),n (.st 2 (t 13) (t 52))]) (Q (O [fa 53
 0 13,ld 54 53,ac 55 .lss 54 (i 0),m 56 55,h 57 56 (.fa 0 (t 13)),h 58 56 (.ld none (t 57)),h 59 56 (.mv (t 11)),h 60 56 (.ar .geq (t 58) (t 59)),pt 61 56 60,m 62 61,h 63
 62 (.fa 1 (t 13)),h 64 62 (.ld none (t 63)),h 65 62 (.ar .lss (t 64) (i 0)),pt 66 62 65,m 67 66,h 68 67 (.fa 1 (t 13)),h 69 67 (.ld none (t 68)),h 70 67 (.mv (t 1)),h 71 67
 (.len .sl (t 70)),h 72 67 (.ar .geq (t 69) (t 71)),pt 73 67 72]) (C 73 (Q (O [mc 6 (.c (.slice .nil 3 [])),mc 7 (u 1)]) R) X)))) (O [ad 74 49,m 49 74]))))
def tF:AC:=
 (Q (O [bl 89 88 87]) (Q (C 89 X (.exit 2)) (Q (.block 3 (Q (O [ia 90 1 86 88,ld 91 90,m 18 91]) (Q (O [m 93 18,k1 94 kj 93,m 92 94,ex 95 92 0,ex 96 92 1,o 19 (.nw
 [(.int .u8 0),(.str []),(.bool false)] ae),n (.st 3 (t 19) (t 95)),m 20 96]) (Q (Q (O [m 97 20,no 98 97]) (C 98 (O [o 99 (.bd [(.int .u8 0),(.str []),(.bool false)]
 [(0,1),(1,1),(2,1)] [(0,(u 5))]),n (.st 3 (t 19) (t 99))]) X)) (Q (O [la 100 3 19,k2 101 fx 16 100,no 102 101]) (C 102 (Q (O [mc 6 (.c (.slice .nil 3
 [])),mc 7 (u 8)]) R) X)))))) (O [ad 103 88,m 88 103]))))
def vF:AC:=
 (Q (O [mc 6 (.c (.slice .nil 3 [])),mc 7 (u 0)]) (Q (Q (O [m 22 1,k1 23 tA 22,m 8 23]) (Q (O [m 24 8,ac 25 .neq 24 (u 0)]) (C 25 (Q (O [m 26 8,mc 6 (.c (.slice
 .nil 3 [])),m 7 26]) R) X))) (Q (Q (O [m 27 1,k1 28 vi 27,ls 29 28,m 30 1,ls 31 30,bl 32 29 31]) (C 32 (Q (O [mc 6 (.c (.slice .nil 3 [])),mc 7 (u 1)]) R) X)) (Q (O
 [m 34 0,k1 35 tz 34,m 33 35,ex 36 33 0,ex 37 33 1,m 9 36,m 10 37]) (Q (Q (O [m 38 10,ac 39 .neq 38 (u 0)]) (C 39 (Q (O [m 40 10,mc 6 (.c (.slice .nil 3 [])),m 7
 40]) R) X)) (Q (Q (O [m 41 2,ls 42 41,ac 43 .gtr 42 (i 2048)]) (C 43 (Q (O [mc 6 (.c (.slice .nil 3 [])),mc 7 (u 3)]) R) X)) (Q (O [m 44 9,k1 45 vi 44,ls 46 45,m 11
 46]) (Q (Q (O [m 47 2,ls 48 47,mc 49 (i 0)]) (.block 0 (.loop ⟨none,[],false⟩ tE))) (Q (O [m 75 9,k1 76 vw 75,m 14 76]) (Q (Q (O [m 77 14,m 78 2,
 k 79 (f tB) [(t 77),(t 78),(.c .nilp)],no 80 79]) (C 80 (Q (O [mc 6 (.c (.slice .nil 3 [])),mc 7 (u 10)]) R) X)) (Q (O [m 81 14,m 82 1,m 83 1,ls 84 83,k 85 (f
 xM) [(t 81),(t 82),(i 0),(t 84)],m 15 85]) (Q (O [o 16 (.nw [(.bool false),(.bool false)] b8)]) (Q (Q (O [m 86 15,ls 87 86,mc 88 (i 0)]) (.block 2 (.loop
 ⟨none,[],false⟩ tF))) (Q (Q (O [m 104 15,ls 105 104,ac 106 .gtr 105 (i 512)]) (C 106 (Q (O [mc 6 (.c (.slice .nil 3 [])),mc 7 (u 3)]) R) X)) (Q (O [m 107 15,k1
 108 yW 107,m 21 108]) (Q (Q (O [m 109 21,ls 110 109,ac 111 .gtr 110 (i 512)]) (C 111 (Q (O [mc 6 (.c (.slice .nil 3 [])),mc 7 (u 3)]) R) X)) (Q (O [m 112 21,m 6 112,
 mc 7 (u 0)]) R)))))))))))))))))
def vG:AFn:=⟨vF,113,[.t 6,.t 7],.keep,[],none⟩
def oe:AC:=
 (Q (Q (O [m 11 5,m 12 0,ls 13 12,bl 14 11 13]) (C 14 X (.exit 0))) (Q (.block 1 (Q (D [Pm 17 0,Pm 18 5,P (ia 19 1 17 18),Wl 20 19,Pm 21 1,Pm 22 5,P (ia 23 1 21 22),Wl 24
 23,P (ar 25 .neq 20 24)]) (C 25 (rt 4 F) X))) (ic 15 5 16)))
def pR:AC:=
 (Q (O [mc 4 F]) (Q (Q (O [m 6 0,ls 7 6,m 8 1,ls 9 8,ar 10 .neq 7 9]) (C 10 (rt 4 F) X)) (Q (Q (O [mc 5 (i 0)]) (.block 0 (.loop ⟨none,[],false⟩ oe))) (rt
 4 T))))
def pS:AFn:=⟨pR,26,[.t 4],.keep,[],none⟩
def x8:AC:=
 (Q (O [mc 2 F]) (Q (O [k1 4 ed 0,m 3 4]) (Q (O [k1 5 od 0]) (Q (Q (O [m 6 3,ac 7 .neq 6 (s [])]) (C 7 (O [ld 8 1,m 9 3,o 10 (.bd
 [(.int .u8 0),(.str []),(.bool false)] [(0,1),(1,1),(2,1)] [(0,(u 1)),(1,(t 9))]),o 11 (.bs 3 [(.int .u8 0),(.str []),(.bool false)] 1 [(0,(t 10))]),o 12 (.ap false
 ae 3 32 false (t 8) (t 11)),n (.st 1 (t 1) (t 12))]) X)) (Q (O [m 13 3,k1 14 gF 13,m 2 14]) R)))))
def x9:AFn:=⟨x8,15,[.t 2],.keep,[],none⟩
def m6:AFn:=eh.k
def nM:AC:=
 (Q (O [m 2 0,o 3 (.nc (t 2)),fa 4 0 3,n (.st 1 (t 4) (.c .nilp))]) (O [m 5 0,o 6 (.nc (t 5)),fa 7 1 6,n (.st 1 (t 7) (.c (.slice .nil 1 [])))]))
def nN:AFn:=⟨nM,8,[],.keep,[],none⟩
def ya:AFn:=gG.k
def rJ:AC:=
 (Q (O [mc 4 F]) (Q (O [m 5 0,m 6 1,k2 7 lF 5 6,ac 8 .geq 7 (i 0),m 4 8]) R))
def rK:AFn:=⟨rJ,9,[.t 4],.keep,[],none⟩
def lP:AFn:=dC.k
def yb:AC:=
 (Q (O [o 2 (.nw [(.int .u8 0),(.str []),(.bool false)] ae),mc 3 (i 0)]) (Q (O [m 6 0,k 7 (f so) [(t 6),(s [62,125])],m 4 7]) (Q (Q (O [m 8 4,ac 9
 .lss 8 (i 0)]) (C 9 (Q (O [o 10 (.bd [(.int .u8 0),(.str []),(.bool false)] [(0,1),(1,1),(2,1)] []),n (.st 3 (t 2) (t 10)),mc 3 (i 0)]) R) X)) (Q (O [m 11 0,m 12 4,o 13
 (.sls (t 11) (some (i 1)) (some (t 12))),o 14 (.bd [(.int .u8 0),(.str []),(.bool false)] [(0,1),(1,1),(2,1)] [(0,(u 2)),(1,(t 13))]),o 5 (.nw [(.int .u8 0),(.str []),
 (.bool false)] ae),n (.st 3 (t 5) (t 14))]) (Q (.block 0 (Q (O [m 16 0,o 17 (.ixs (t 16) (i 0)),ac 18 .eql 17 (u 123),m 15 18]) (C 15 (O [fa 19 0 5,n (.st 1 (t 19) (u
 5))]) (Q (O [fa 21 1 5,ld 22 21,k 23 (f jr) [(t 22),(s [47,43])],m 20 23]) (C 20 (O [fa 24 1 5,ld 25 24,o 26 (.sls (t 25) (some (i 2)) none),o 27 (.bd
 [(.int .u8 0),(.str []),(.bool false)] [(0,1),(1,1),(2,1)] [(0,(u 3)),(1,(t 26)),(2,T)]),n (.st 3 (t 5) (t 27))]) (Q (O [fa 29 1 5,ld 30 29,k 31 (f
 jr) [(t 30),(s [47])],m 28 31]) (C 28 (O [fa 32 1 5,ld 33 32,o 34 (.sls (t 33) (some (i 1)) none),o 35 (.bd [(.int .u8 0),(.str []),(.bool false)] [(0,1),
 (1,1),(2,1)] [(0,(u 3)),(1,(t 34))]),n (.st 3 (t 5) (t 35))]) (Q (O [fa 37 1 5,ld 38 37,k 39 (f jr) [(t 38),(s [43])],m 36 39]) (C 36 (O [fa 40 1 5,ld
 41 40,o 42 (.sls (t 41) (some (i 1)) none),o 43 (.bd [(.int .u8 0),(.str []),(.bool false)] [(0,1),(1,1),(2,1)] [(0,(u 2)),(1,(t 42)),(2,T)]),n (.st 3 (t 5) (t 43))])
 (Q (O [fa 45 1 5,ld 46 45,k 47 (f rF) [(t 46),(s [47])],m 44 47]) (C 44 (O [fa 48 1 5,ld 49 48,fa 50 1 5,ld 51 50,lt 52 51,ac 53 .sub 52 (i 1),o 54 (.sls
 (t 49) none (some (t 53))),o 55 (.bd [(.int .u8 0),(.str []),(.bool false)] [(0,1),(1,1),(2,1)] [(0,(u 4)),(1,(t 54))]),n (.st 3 (t 5) (t 55))]) X))))))))))) (Q (Q (D
 [Pf 56 1 5,Wl 57 56,E (k1 58 kY 57),P (no 59 58),Pm 60 59,W (h 61 60 (.ld (some 3) (t 5))),E (⟨(some 62),(some (60,false)),(.call (.c (.fn (.func eY)
 [] [])) [(.t 61)])⟩),P (h 63 60 (.mv (t 0))),P (h 64 60 (.mv (t 4))),P (h 65 60 (.ar .add (t 64) (i 1))),P (h 66 60 (.sls (t 63) none (some (t 65)))),P (h 67 60 (.ar .neq (t
 62) (t 66))),P (pt 68 60 67)]) (C 68 (Q (O [o 69 (.bd [(.int .u8 0),(.str []),(.bool false)] [(0,1),(1,1),(2,1)] []),n (.st 3 (t 2) (t 69)),mc 3 (i 0)]) R) X)) (Q (O [la
 70 3 5,m 71 4,ad 72 71,n (.st 3 (t 2) (t 70)),m 3 72]) R)))))))
def yc:AFn:=⟨yb,73,[.cell 2 (some 3),.t 3],.keep,[],none⟩
def vH:AC:=
 (Q (O [o 1 (.bx ae (t 0)),mc 2 (s [])]) (Q (O [mc 3 (s [])]) (Q (Q (O [fa 4 2 1,ld 5 4]) (C 5 (O [mc 3 (s [43])]) X)) (Q (Q (O [fa 6 0 1,ld 7 6]) (.block 0 (Q (O [ac 9
 .eql 7 (u 2),m 8 9]) (C 8 (Q (O [m 10 3,o 11 (.ar .add (s [60]) (t 10)),fa 12 1 1,ld 13 12,ar 14 .add 11 13,ac 15 .add 14 (s [62]),m 2 15]) R) (Q (O [ac 17 .eql 7 (u 3),m 16
 17]) (C 16 (Q (O [m 18 3,o 19 (.ar .add (s [60,47]) (t 18)),fa 20 1 1,ld 21 20,ar 22 .add 19 21,ac 23 .add 22 (s [62]),m 2 23]) R) (Q (O [ac 25 .eql 7 (u 4),m 24 25]) (C 24
 (Q (O [fa 26 1 1,ld 27 26,o 28 (.ar .add (s [60]) (t 27)),ac 29 .add 28 (s [47,62]),m 2 29]) R) (Q (O [ac 31 .eql 7 (u 5),m 30 31]) (C 30 (Q (O [fa 32 1 1,ld 33 32,o 34 (.ar
 .add (s [123]) (t 33)),ac 35 .add 34 (s [125]),m 2 35]) R) X)))))))))) (Q (D [P (o 36 (.bs 1 [(.str [])] 6 [(0,(s [92])),(1,(s [92,92])),(2,(s [60])),(3,(s [92,60])),(4,
 (s [123])),(5,(s [92,123]))])),Pf 38 1 1,Wl 39 38,K (k1 37 fh 36),K (k2 40 dG 37 39),Pm 2 40]) R)))))
def vI:AFn:=⟨vH,41,[.t 2],.keep,[],none⟩
def yd:AFn:=gH.k
def pT:AFn:=fy.k
def nO:AFn:=eG.k
def m7:AC:=
 (O [m 4 0,m 5 0,o 6 (.nc (t 5)),fa 7 0 6,ld 8 7,m 9 1,o 10 (.bs 1 [(.str [])] 1 [(0,(t 9))]),o 11 (.ap false aO 1 16 false (t 8) (t 10)),o 12 (.nc (t 4)),fa 13 0 12,
 n (.st 1 (t 13) (t 11))])
def m8:AFn:=⟨m7,14,[],.keep,[],none⟩
def su:AC:=
 (Q (O [bl 28 27 26]) (Q (C 28 X (.exit 2)) (Q (.block 3 (Q (O [m 29 27,ia 30 1 25 27,ld 31 30,m 8 29,m 9 31]) (Q (O [m 33 9,k1 34 A6 33,m 32 34,ex 35 32 0,ex 36 32
 1,m 10 35,m 11 36]) (Q (Q (O [m 37 11,no 38 37]) (C 38 (Q (O [mc 2 (.c (.slice .nil 3 [])),mc 3 (u 4)]) R) X)) (Q (Q (O [m 39 10,ls 40 39,ac 41 .gtr 40 (i 32)]) (C 41 (Q (O
 [mc 2 (.c (.slice .nil 3 [])),mc 3 (u 3)]) R) X)) (O [m 42 8,m 43 10,o 44 (.iaa 2 1 (t 7) (t 42)),n (.st 1 (t 44) (t 43))])))))) (O [ad 45 27,m 27 45]))))
def sv:AC:=
 (Q (O [bl 18 17 16]) (Q (C 18 X (.exit 0)) (Q (.block 1 (Q (O [ia 19 3 15 17,la 20 3 19,o 6 (.nw [(.str []),(.str []),(.bool false)] Cp),n (.st 3 (t 6) (t 20))]) (Q (O
 [o 7 (.nw [(.slice .nil 1 []),(.slice .nil 1 [])] ux)]) (Q (Q (O [fa 21 0 6,ld 22 21,fa 23 1 6,ld 24 23,o 25 (.bs 1 [(.str [])] 2 [(0,(t 22)),(1,(t 24))]),ls
 26 25,mc 27 (i 0)]) (.block 2 (.loop ⟨none,[],false⟩ su))) (O [m 46 4,o 47 (.iaa 2 1 (t 7) (i 0)),ld 48 47,o 49 (.iaa 2 1 (t 7) (i 1)),ld 50 49,fa 51 2 6,ld
 52 51,o 53 (.bd [(.slice .nil 1 []),(.slice .nil 1 []),(.bool false)] [(0,1),(1,1),(2,1)] [(0,(t 48)),(1,(t 50)),(2,(t 52))]),o 54 (.bs 3 [(.slice .nil 0 []),(.slice
 .nil 0 []),(.bool false)] 1 [(0,(t 53))]),o 55 (.ap false qG 3 56 false (t 46) (t 54)),m 4 55]))))) (O [ad 56 17,m 17 56]))))
def uy:AC:=
 (Q (O [mc 2 (.c (.slice .nil 3 [])),mc 3 (u 0)]) (Q (Q (O [m 12 0,ls 13 12,ac 14 .gtr 13 (i 64)]) (C 14 (Q (O [mc 2 (.c (.slice .nil 3 [])),mc 3 (u 3)]) R) X)) (Q (O [mc 4 (.c
 (.slice .nil 3 []))]) (Q (Q (O [m 15 0,ls 16 15,mc 17 (i 0)]) (.block 0 (.loop ⟨none,[],false⟩ sv))) (Q (O [m 57 4,m 2 57,mc 3 (u 0)]) R)))))
def uz:AFn:=⟨uy,58,[.t 2,.t 3],.keep,[],none⟩
def uA:AC:=
 (Q (O [bl 22 21 20]) (Q (C 22 X (.exit 2)) (Q (.block 3 (Q (O [ia 23 3 19 21,la 24 3 23,o 9 (.nw [(.slice .nil 1 []),(.slice .nil 1 []),(.bool false)] qG),n (.st 3 (t
 9) (t 24))]) (Q (Q (O [la 25 3 9,m 26 5,m 27 7,k 28 (f uw) [(t 25),(t 26),(t 27)],no 29 28]) (C 29 (.exit 3) X)) (Q (Q (O [fa 30 2 9,ld 31 30]) (C 31 (O [m 32
 6,m 33 7,o 34 (.bs 1 [(.int .i64 0)] 1 [(0,(t 33))]),o 35 (.ap false LU 1 8 false (t 32) (t 34)),m 6 35]) X)) (.exit 2))))) (O [ad 36 21,m 21 36]))))
def uB:AC:=
 (Q (Q (O [m 13 7,m 14 5,ls 15 14,bl 16 13 15]) (C 16 X (.exit 0))) (Q (.block 1 (Q (O [m 19 0,ls 20 19,mc 21 (i 0)]) (.block 2 (.loop ⟨none,[],false⟩ uA)))) (ic
 17 7 18)))
def ye:AC:=
 (Q (O [mc 4 (.c (.slice .nil 1 []))]) (Q (O [m 10 1,k1 11 oU 10,k1 12 iL 11,m 5 12]) (Q (O [mc 6 (.c (.slice .nil 1 []))]) (Q (Q (O [mc 7 (i
 1)]) (.block 0 (.loop ⟨none,[],false⟩ uB))) (Q (O [m 37 6,m 4 37]) R)))))
def yf:AFn:=⟨ye,38,[.t 4],.keep,[],none⟩
def za:AC:=
 (Q (O [mc 2 (i 0),mc 3 (u 0)]) (Q (Q (O [m 5 0,k1 6 bZ 5,m 4 6]) (Q (O [m 7 4,ac 8 .neq 7 (u 0)]) (C 8 (Q (O [m 9 4,mc 2 (i 0),m 3 9]) R) X))) (Q (O [m 10 0,
 k1 11 oU 10,k1 12 iL 11,ls 13 12,m 2 13,mc 3 (u 0)]) R)))
def zb:AFn:=⟨za,14,[.t 2,.t 3],.keep,[],none⟩
def zd:AC:=
 (Q (O [o 31 (.nx (t 30)),ex 32 31 0]) (Q (C 32 X (.exit 3)) (.block 4 (Q (O [ex 33 31 2,m 10 33]) (O [m 34 6,m 35 10,o 36 (.cvs (t 35)),o 37 (.bd [(.int .u8 0),(.str []),
 (.bool false)] [(0,1),(1,1),(2,1)] [(0,(u 1)),(1,(t 36))]),k2 38 mN 34 37])))))
def ze:AC:=
 (Q (O [bl 18 17 16]) (Q (C 18 X (.exit 0)) (Q (.block 1 (Q (O [ia 19 3 15 17,la 20 3 19,o 8 (.nw [(.int .u8 0),(.str []),(.bool false)] ae),n (.st 3 (t 8) (t 20))]) (Q
 (O [fa 21 0 8,ld 22 21]) (.block 2 (Q (O [ac 27 .eql 22 (u 1),m 26 27]) (C 26 (Q (O [fa 28 1 8,ld 29 28,o 30 (.rg (t 29))]) (.block 3 (.loop ⟨none,[],false⟩ zd)))
 (Q (O [ac 40 .eql 22 (u 5),m 39 40]) (C 39 (O [m 41 6,la 42 3 8,k2 43 mN 41 42]) (O [m 23 6,la 24 3 8,k2 25 tC 23 24]))))))))) (O [ad 44 17,m 17
 44]))))
def Cu:AC:=
 (Q (O [mc 4 (.c (.slice .nil 1 [])),mc 5 F]) (Q (O [o 11 (.bm a8 1 [(.slice .nil 0 [])] 1 [(0,(.c (.slice .nil 3 [])))]),m 12 1,o 13 (.bd [(.slice .nil 1 []),
 (.slice .nil 1 []),(.int .i64 0),(.bool false),(.slice .nil 1 [])] [(0,1),(1,1),(2,1),(3,1),(4,1)] [(0,(t 11)),(1,(t 12))]),o 14 (.bx jC (t 13)),m 6 14])
 (Q (Q (O [m 15 0,ls 16 15,mc 17 (i 0)]) (.block 0 (.loop ⟨none,[],false⟩ ze))) (Q (D [Pm 45 6,P (o 46 (.nc (t 45))),Pf 47 0 46,Wl 48 47,Pm 49 6,P (o 50 (.nc (t
 49))),Pf 51 0 50,Wl 52 51,K (k 53 (f gb) [(t 52),(f A7)]),P (no 54 53),Pm 4 48,Pm 5 54]) R))))
def Cv:AFn:=⟨Cu,55,[.t 4,.t 5],.keep,[1],none⟩
def zf:AC:=
 (Q (O [o 1 (.bx a8 (t 0)),mc 2 (.c .nilfn)]) (Q (O [o 3 (.mf (.func mO) [] [(t 1)]),m 2 3]) R))
def zg:AFn:=⟨zf,4,[.t 2],.keep,[],none⟩
def tG:AC:=
 (Q (O [o 1 (.bx di (t 0)),mc 2 F]) (Q (O [fa 3 1 1,ld 4 3,m 5 4,h 6 5 (.ld (some 2) (t 1)),⟨(some 7),(some (5,false)),(.call (.c (.fn (.func jI) []
 [])) [(.t 6)])⟩,pt 8 5 7,m 9 8,h 10 9 (.ld (some 2) (t 1)),⟨(some 11),(some (9,false)),(.call (.c (.fn (.func km) [] [])) [(.t 10)])⟩,pt 12 9 11,m 2 12]) R))
def tH:AFn:=⟨tG,13,[.t 2],.keep,[],none⟩
def tI:AC:=
 (Q (O [o 1 (.bx di (t 0)),mc 2 F]) (Q (O [fa 3 1 1,ld 4 3,no 5 4,m 6 5,g 7 6 (.ld (some 2) (t 1)),⟨(some 8),(some (6,true)),(.call (.c (.fn (.func
 jI) [] [])) [(.t 7)])⟩,g 9 6 (.un .not (t 8)),pf 10 6 9,m 11 10,g 12 11 (.ld (some 2) (t 1)),⟨(some 13),(some (11,true)),(.call (.c (.fn (.func
 km) [] [])) [(.t 12)])⟩,g 14 11 (.un .not (t 13)),pf 15 11 14,m 16 15,g 17 16 (.ld (some 2) (t 1)),⟨(some 18),(some (16,true)),(.call (.c (.fn (.func
 nu) [] [])) [(.t 17)])⟩,g 19 16 (.un .not (t 18)),pf 20 16 19,m 2 20]) R))
def tJ:AFn:=⟨tI,21,[.t 2],.keep,[],none⟩
def qK:AC:=
 (Q (O [bl 14 13 12]) (Q (C 14 X (.exit 0)) (Q (.block 1 (Q (O [ia 15 1 11 13,ld 16 15,m 5 16]) (Q (Q (O [m 17 5,k1 18 yX 17,no 19 18]) (C 19 (rt 2 (u 4)) X)) (Q (O [m
 21 5,k1 22 kj 21,m 20 22,ex 23 20 0,ex 24 20 1,o 6 (.nw [(.int .u8 0),(.str []),(.bool false)] ae),n (.st 3 (t 6) (t 23)),m 7 24]) (Q (Q (O [m 25 7,no
 26 25]) (C 26 (O [o 27 (.bd [(.int .u8 0),(.str []),(.bool false)] [(0,1),(1,1),(2,1)] [(0,(u 5)),(1,(s [120]))]),n (.st 3 (t 6) (t 27))]) X)) (O [m 28 3,la 29 3 6,o 30
 (.bs 3 [(.int .u8 0),(.str []),(.bool false)] 1 [(0,(t 29))]),o 31 (.ap false ae 3 32 false (t 28) (t 30)),m 3 31])))))) (O [ad 32 13,m 13 32]))))
def sw:AC:=
 (Q (O [mc 2 (u 0)]) (Q (Q (O [m 8 0,ls 9 8,ac 10 .gtr 9 (i 512)]) (C 10 (rt 2 (u 3)) X)) (Q (O [mc 3 (.c (.slice .nil 3 []))]) (Q (Q (O [m 11 0,ls 12 11,mc 13 (i 0)]) (.block 0
 (.loop ⟨none,[],false⟩ qK))) (Q (O [m 33 3,k1 34 bZ 33,m 2 34]) R)))))
def sx:AFn:=⟨sw,35,[.t 2],.keep,[],none⟩
def yg:AC:=
 (Q (O [bl 11 10 9]) (Q (C 11 X (.exit 0)) (Q (.block 1 (Q (O [ia 12 1 8 10,ld 13 12,m 5 13]) (Q (O [m 15 5,k1 16 sq 15,m 14 16,ex 17 14 0,ex 18 14 1,o 6 (.nw [(.int
 .u8 0),(.str []),(.bool false)] ae),n (.st 3 (t 6) (t 17)),m 7 18]) (Q (O [m 19 7,no 20 19]) (C 20 (O [m 21 3,m 22 5,o 23 (.bs 1 [(.str [])] 1 [(0,(t 22))]),o 24
 (.ap false aO 1 16 false (t 21) (t 23)),m 3 24]) X))))) (O [ad 25 10,m 10 25]))))
def Bh:AC:=
 (Q (O [mc 2 (.c (.slice .nil 1 []))]) (Q (O [mc 3 (.c (.slice .nil 1 []))]) (Q (Q (O [m 8 0,ls 9 8,mc 10 (i 0)]) (.block 0 (.loop ⟨none,[],false⟩ yg))) (Q (O [m 26
 3,m 2 26]) R))))
def Bi:AFn:=⟨Bh,27,[.t 2],.keep,[],none⟩
def sy:AC:=
 (Q (O [bl 20 19 18]) (Q (C 20 X (.exit 0)) (Q (.block 1 (Q (O [ia 21 1 17 19,ld 22 21,m 7 22]) (Q (O [m 24 7,k1 25 sq 24,m 23 25,ex 26 23 0,ex 27 23 1,o 8 (.nw [(.int
 .u8 0),(.str []),(.bool false)] ae),n (.st 3 (t 8) (t 26)),m 9 27]) (Q (O [fa 28 0 4,ld 29 28,fa 30 0 4,ld 31 30,ls 32 31,ac 33 .sub 32 (i 1),ia 34 1 29 33,ld 35
 34,m 10 35]) (.block 2 (Q (O [m 57 9,no 58 57,m 56 58]) (C 56 (ic 59 5 60) (Q (O [fa 62 0 8,ld 63 62,ac 64 .eql 63 (u 3),m 61 64]) (C 61 (Q (O [m 65 10,m 66 10,m 67 7,m 68
 5,o 69 (.nc (t 65)),fa 70 1 69,n (.st 1 (t 70) (t 67)),o 71 (.nc (t 66)),fa 72 3 71,n (.st 1 (t 72) (t 68))]) (O [m 73 10,k2 74 lq 4 73])) (Q (O [m
 36 7,m 37 5,m 38 5,o 39 (.bd [(.str []),(.str []),(.int .i64 0),(.int .i64 0),(.slice .nil 1 []),(.int .i64 0),(.int .i64 0)] [(0,1),(1,1),(2,1),(3,1),(4,1),(5,
 1),(6,1)] [(0,(t 36)),(2,(t 37)),(3,(t 38))]),o 40 (.bx qH (t 39)),m 11 40]) (Q (O [m 41 10,m 42 10,o 43 (.nc (t 42)),fa 44 4 43,ld 45 44,m 46 11,o 47
 (.bs 1 [.nilp] 1 [(0,(t 46))]),o 48 (.ap false kQ 1 8 false (t 45) (t 47)),o 49 (.nc (t 41)),fa 50 4 49,n (.st 1 (t 50) (t 48))]) (Q (O [fa 51 0 8,ld 52 51,ac
 53 .eql 52 (u 2)]) (C 53 (O [m 54 11,k2 55 kP 4 54]) X))))))))))))) (O [ad 75 19,m 19 75]))))
def uC:AC:=
 (Q (O [mc 2 (.c (.slice .nil 1 []))]) (Q (O [o 12 (.bd [(.str []),(.str []),(.int .i64 0),(.int .i64 0),(.slice .nil 1 []),(.int .i64 0),(.int .i64 0)] [(0,1),(1,1),(2,
 1),(3,1),(4,1),(5,1),(6,1)] []),o 13 (.bx qH (t 12)),m 3 13]) (Q (O [m 14 3,o 15 (.bs 1 [.nilp] 1 [(0,(t 14))]),o 16 (.bd [(.slice .nil 1 [])] [(0,1)] [(0,
 (t 15))]),o 4 (.nw [(.slice .nil 1 [])] mj),n (.st 1 (t 4) (t 16))]) (Q (O [mc 5 (i 0)]) (Q (Q (O [m 17 0,ls 18 17,mc 19 (i 0)]) (.block 0 (.loop ⟨none,
 [],false⟩ sy))) (Q (O [m 76 3,o 77 (.nc (t 76)),fa 78 4 77,ld 79 78,m 2 79]) R))))))
def uD:AFn:=⟨uC,80,[.t 2],.keep,[],none⟩
def vJ:AC:=
 (Q (O [bl 37 36 35]) (Q (C 37 X (.exit 2)) (Q (.block 3 (Q (O [ia 38 2 34 36,la 39 2 38,o 11 (.nw [(.int .i64 0),(.int .i64 0)] z6),n (.st 2 (t 11) (t 39))]) (.block 4 (Q
 (D [Pf 41 0 11,Wl 42 41,Pm 43 8,P (o 44 (.nc (t 43))),Pf 45 2 44,Wl 46 45,P (ar 47 .geq 42 46),Pm 48 47,P (g 49 48 (.fa 0 (t 11))),W (g 50 48 (.ld none (t 49))),P (g 51 48
 (.mv (t 8))),P (g 52 48 (.nc (t 51))),P (g 53 48 (.fa 3 (t 52))),W (g 54 48 (.ld none (t 53))),P (g 55 48 (.ar .lss (t 50) (t 54))),P (pf 56 48 55),Pm 40 56]) (C 40 (Q (Q (D
 [Pm 57 8,P (o 58 (.nc (t 57))),Pf 59 5 58,Wl 60 59,P (ac 61 .lss 60 (i 0)),Pm 62 61,P (h 63 62 (.fa 1 (t 11))),W (h 64 62 (.ld none (t 63))),P (h 65 62 (.mv (t 8))),P (h 66
 62 (.nc (t 65))),P (h 67 62 (.fa 5 (t 66))),W (h 68 62 (.ld none (t 67))),P (h 69 62 (.ar .lss (t 64) (t 68))),P (pt 70 62 69)]) (C 70 (O [m 71 8,fa 72 1 11,ld 73 72,o 74
 (.nc (t 71)),fa 75 5 74,n (.st 1 (t 75) (t 73))]) X)) (D [Pm 76 8,Pm 77 8,P (o 78 (.nc (t 77))),Pf 79 6 78,Wl 80 79,Pf 81 1 11,Wl 82 81,P (ad 83 82),P (o 84 (.mx (t 80) (t
 83))),P (o 85 (.nc (t 76))),Pf 86 6 85,E (n (.st 1 (t 86) (t 84)))])) (Q (D [Pf 88 0 11,Wl 89 88,Pm 90 8,P (o 91 (.nc (t 90))),Pf 92 2 91,Wl 93 92,P (bl 94 89 93),Pm 87
 94]) (C 87 (O [m 95 9,fa 96 1 11,ld 97 96,ad 98 97,o 99 (.mx (t 95) (t 98)),m 9 99]) X))))))) (O [ad 100 36,m 36 100]))))
def vK:AC:=
 (Q (O [bl 25 24 23]) (Q (C 25 X (.exit 0)) (Q (.block 1 (Q (O [ia 26 1 22 24,ld 27 26,m 8 27]) (Q (O [m 28 8,m 29 8,o 30 (.nc (t 28)),fa 31 5 30,n (.st 1 (t 31) (i (-1))),o
 32 (.nc (t 29)),fa 33 6 32,n (.st 1 (t 33) (i (-1)))]) (Q (O [mc 9 (i 0)]) (Q (Q (O [m 34 1,ls 35 34,mc 36 (i 0)]) (.block 2 (.loop ⟨none,[],false⟩ vJ))) (Q (O [m
 101 8,o 102 (.nc (t 101)),fa 103 5 102,ld 104 103,ac 105 .lss 104 (i 0)]) (C 105 (Q (Q (O [m 106 2,o 107 (.eq true .ptr (t 106) (.c .nilp))]) (C 107 (D [Pm 108 9,Pm 109 2,P
 (o 110 (.nc (t 109))),Pf 111 5 110,Wl 112 111,P (o 113 (.mx (t 108) (t 112))),Pm 114 2,P (o 115 (.nc (t 114))),Pf 116 6 115,Wl 117 116,P (o 118 (.mn (t 113) (t 117))),Pm 9
 118]) X)) (O [m 119 8,m 120 8,m 121 9,m 122 9,o 123 (.nc (t 119)),fa 124 5 123,n (.st 1 (t 124) (t 121)),o 125 (.nc (t 120)),fa 126 6 125,n (.st 1 (t 126) (t 122))]))
 X))))))) (O [ad 127 24,m 24 127]))))
def vL:AC:=
 (Q (O [bl 140 139 138]) (Q (C 140 X (.exit 7)) (Q (.block 8 (Q (O [ia 141 1 137 139,ld 142 141,m 15 142]) (Q (D [Pm 143 13,E (k1 144 cF 143),Pm 145 144,P (g
 146 145 (.mv (t 15))),E (⟨(some 147),(some (145,true)),(.call (.c (.fn (.func cF) [] [])) [(.t 146)])⟩),P (pf 148 145 147),Pm 149 148,P (g 150 149 (.mv (t
 13))),P (g 151 149 (.nc (t 150))),P (g 152 149 (.fa 5 (t 151))),W (g 153 149 (.ld none (t 152))),P (g 154 149 (.mv (t 15))),P (g 155 149 (.nc (t 154))),P (g 156 149 (.fa 6 (t
 155))),W (g 157 149 (.ld none (t 156))),P (g 158 149 (.ar .lss (t 153) (t 157))),P (pf 159 149 158),Pm 160 159,P (g 161 160 (.mv (t 15))),P (g 162 160 (.nc (t 161))),P (g 163
 160 (.fa 5 (t 162))),W (g 164 160 (.ld none (t 163))),P (g 165 160 (.mv (t 13))),P (g 166 160 (.nc (t 165))),P (g 167 160 (.fa 6 (t 166))),W (g 168 160 (.ld none (t 167))),P
 (g 169 160 (.ar .lss (t 164) (t 168))),P (pf 170 160 169)]) (C 170 (rt 6 F) X)))) (O [ad 171 139,m 139 171]))))
def vM:AC:=
 (Q (O [bl 131 130 129]) (Q (C 131 X (.exit 5)) (Q (.block 6 (Q (O [m 132 130,ia 133 1 128 130,ld 134 133,m 12 132,m 13 134]) (Q (O [m 135 0,m 136 12,o 137 (.sll 1 (t 135) none
 (some (t 136)) none),ls 138 137,mc 139 (i 0)]) (.block 7 (.loop ⟨none,[],false⟩ vL))))) (O [ad 172 130,m 130 172]))))
def vN:AC:=
 (Q (O [bl 182 181 180]) (Q (C 182 X (.exit 11)) (Q (.block 12 (Q (O [ia 183 1 179 181,ld 184 183,m 19 184]) (Q (D [Pm 185 17,E (k1 186 cF 185),P (no 187 186),
 Pm 188 187,P (g 189 188 (.mv (t 19))),E (⟨(some 190),(some (188,true)),(.call (.c (.fn (.func cF) [] [])) [(.t 189)])⟩),P (pf 191 188 190),Pm 192 191,P (g
 193 192 (.mv (t 19))),P (g 194 192 (.nc (t 193))),P (g 195 192 (.fa 5 (t 194))),W (g 196 192 (.ld none (t 195))),P (g 197 192 (.mv (t 17))),P (g 198 192 (.nc (t 197))),P (g
 199 192 (.fa 5 (t 198))),W (g 200 192 (.ld none (t 199))),P (g 201 192 (.ar .lss (t 196) (t 200))),P (pf 202 192 201),Pm 203 202,P (g 204 203 (.mv (t 17))),P (g 205 203 (.nc
 (t 204))),P (g 206 203 (.fa 5 (t 205))),W (g 207 203 (.ld none (t 206))),P (g 208 203 (.mv (t 19))),P (g 209 203 (.nc (t 208))),P (g 210 203 (.fa 6 (t 209))),W (g 211 203 (.ld
 none (t 210))),P (g 212 203 (.ar .lss (t 207) (t 211))),P (pf 213 203 212)]) (C 213 (D [Pm 214 17,Pm 215 17,Pm 216 19,P (o 217 (.nc (t 216))),Pf 218 6 217,Wl 219 218,Pm 220
 19,P (o 221 (.nc (t 220))),Pf 222 6 221,Wl 223 222,P (o 224 (.nc (t 214))),Pf 225 5 224,E (n (.st 1 (t 225) (t 219))),P (o 226 (.nc (t 215))),Pf 227 6 226,E (n (.st 1 (t
 227) (t 223)))]) X)))) (O [ad 228 181,m 181 228]))))
def vO:AC:=
 (Q (O [bl 176 175 174]) (Q (C 176 X (.exit 9)) (Q (.block 10 (Q (O [ia 177 1 173 175,ld 178 177,m 17 178]) (Q (O [m 179 0,ls 180 179,mc 181 (i 0)]) (.block 11 (.loop ⟨none,[],
 false⟩ vN))))) (O [ad 229 175,m 175 229]))))
def vP:AC:=
 (Q (O [bl 233 232 231]) (Q (C 233 X (.exit 13)) (Q (.block 14 (Q (O [ia 234 1 230 232,ld 235 234,m 21 235]) (Q (O [m 236 21,o 237 (.nc (t 236)),fa 238 4 237,ld 239 238,m 240
 1,m 241 21,k 242 (f tB) [(t 239),(t 240),(t 241)],no 243 242]) (C 243 (rt 6 F) X)))) (O [ad 244 232,m 232 244]))))
def zh:AC:=
 (Q (O [mc 6 F]) (Q (Q (O [m 22 0,ls 23 22,mc 24 (i 0)]) (.block 0 (.loop ⟨none,[],false⟩ vK))) (Q (Q (O [m 128 0,ls 129 128,mc 130 (i 0)]) (.block 5 (.loop ⟨none,
 [],false⟩ vM))) (Q (Q (O [m 173 0,ls 174 173,mc 175 (i 0)]) (.block 9 (.loop ⟨none,[],false⟩ vO))) (Q (Q (O [m 230 0,ls 231 230,mc 232 (i 0)])
 (.block 13 (.loop ⟨none,[],false⟩ vP))) (rt 6 T))))))
def zi:AFn:=⟨zh,245,[.t 6],.keep,[],none⟩
def zj:AC:=
 (Q (O [bl 20 19 18]) (Q (C 20 X (.exit 0)) (Q (.block 1 (Q (O [ia 21 1 17 19,ld 22 21,m 12 22]) (Q (O [m 23 10,m 24 1,m 25 2,m 26 12,o 27 (.nc (t 26)),fa 28 5 27,ld 29 28,o
 30 (.sll 1 (t 24) (some (t 25)) (some (t 29)) none),o 31 (.ap false aO 1 16 false (t 23) (t 30)),m 10 31]) (Q (O [m 32 10,m 33 12,o 34 (.nc (t 33)),fa 35 0 34,ld 36 35,
 o 37 (.bs 1 [(.str [])] 1 [(0,(t 36))]),o 38 (.ap false aO 1 16 false (t 32) (t 37)),m 10 38]) (Q (D [Pm 39 10,Pm 40 12,P (o 41 (.nc (t 40))),Pf 42 4 41,Wl 43 42,Pm 44
 1,Pm 45 12,P (o 46 (.nc (t 45))),Pf 47 5 46,Wl 48 47,Pm 49 12,P (o 50 (.nc (t 49))),Pf 51 6 50,Wl 52 51,E (k 53 (f xM) [(t 43),(t 44),(t 48),(t 52)]),E (o 54
 (.ap false aO 1 16 false (t 39) (t 53))),Pm 10 54]) (Q (Q (O [m 55 12,o 56 (.nc (t 55)),fa 57 1 56,ld 58 57,ac 59 .neq 58 (s [])]) (C 59 (O [m 60 10,m 61 12,o 62 (.nc
 (t 61)),fa 63 1 62,ld 64 63,o 65 (.bs 1 [(.str [])] 1 [(0,(t 64))]),o 66 (.ap false aO 1 16 false (t 60) (t 65)),m 10 66]) X)) (O [m 67 12,o 68 (.nc (t 67)),fa 69 6
 68,ld 70 69,m 2 70]))))))) (O [ad 71 19,m 19 71]))))
def Cw:AC:=
 (Q (O [mc 8 (.c (.slice .nil 1 []))]) (Q (O [m 13 0,k1 14 gQ 13,m 9 14]) (Q (O [m 15 9,k 16 (f
 fm) [(t 15),(f A8)]]) (Q (O [mc 10 (.c (.slice .nil 1 []))]) (Q (Q (O [m 17 9,ls 18 17,mc 19 (i 0)]) (.block 0 (.loop
 ⟨none,[],false⟩ zj))) (Q (O [m 72 10,m 73 1,m 74 2,m 75 3,o 76 (.sll 1 (t 73) (some (t 74)) (some (t 75)) none),o 77 (.ap false aO 1 16 false (t 72) (t 76)),
 m 8 77]) R))))))
def Cx:AFn:=⟨Cw,78,[.t 8],.keep,[],none⟩
def zk:AC:=
 (Q (O [o 2 (.nw [(.int .u8 0),(.str []),(.bool false)] ae),mc 3 F]) (Q (Q (O [m 6 0,ac 7 .eql 6 (s []),m 8 7,h 9 8 (.mv (t 0)),h 10 8 (.ixs (t 9) (i 0)),h 11 8 (.ar
 .neq (t 10) (u 60)),h 12 8 (.mv (t 11)),g 13 12 (.mv (t 0)),g 14 12 (.ixs (t 13) (i 0)),g 15 12 (.ar .neq (t 14) (u 123)),h 16 8 (.pk (t 12) (t 15) F),pt 17 8 16]) (C 17 (Q (O
 [o 18 (.bd [(.int .u8 0),(.str []),(.bool false)] [(0,1),(1,1),(2,1)] []),n (.st 3 (t 2) (t 18)),mc 3 F]) R) X)) (Q (O [m 20 0,k1 21 nD 20,m 19 21,ex 22 19 0,
 ex 23 19 1,o 4 (.nw [(.int .u8 0),(.str []),(.bool false)] ae),n (.st 3 (t 4) (t 22)),m 5 23]) (Q (O [la 24 3 4,m 25 5,ac 26 .gtr 25 (i 0),m 27 26,g 28 27 (.mv (t
 5)),g 29 27 (.mv (t 0)),g 30 27 (.len .str (t 29)),g 31 27 (.ar .eql (t 28) (t 30)),pf 32 27 31,n (.st 3 (t 2) (t 24)),m 3 32]) R))))
def zl:AFn:=⟨zk,33,[.cell 2 (some 3),.t 3],.keep,[],none⟩
def uE:AC:=
 (Q (O [bl 23 22 21]) (Q (C 23 X (.exit 0)) (Q (.block 1 (Q (O [ia 24 1 20 22,ld 25 24,m 10 25]) (Q (Q (O [m 27 10,k1 28 sq 27,m 26 28,ex 29 26 0,ex 30 26 1,o 11 (.nw
 [(.int .u8 0),(.str []),(.bool false)] ae),n (.st 3 (t 11) (t 29)),m 12 30]) (Q (O [m 31 12]) (C 31 (Q (O [ld 32 4,la 33 3 11,o 34 (.bs 3 [(.int .u8 0),(.str []),
 (.bool false)] 1 [(0,(t 33))]),o 35 (.ap false ae 3 32 false (t 32) (t 34)),n (.st 1 (t 4) (t 35))]) (.exit 1)) X))) (Q (O [m 36 8,m 37 6,m 38 37,g 39 38 (.mv (t 5)),
 g 40 38 (.mv (t 10)),⟨(some 41),(some (38,true)),(.call (.c (.fn (.func yY) [] [])) [(.t 39),(.t 40)])⟩,pf 42 38 41,k 43 (t 36) [(t 42)]]) (Q (Q (O [m 45 10,k1 46
 kj 45,m 44 46,ex 47 44 0,ex 48 44 1,o 13 (.nw [(.int .u8 0),(.str []),(.bool false)] ae),n (.st 3 (t 13) (t 47)),m 14 48]) (Q (O [m 49 14]) (C 49 (O [ld
 50 3,la 51 3 13,k2 52 dh 50 51]) (O [ld 53 3,m 54 10,o 55 (.bd [(.int .u8 0),(.str []),(.bool false)] [(0,1),(1,1),(2,1)] [(0,(u 1)),(1,(t 54))]),k2 56
 dh 53 55])))) (O [m 57 10,m 5 57,mc 6 T])))))) (O [ad 58 22,m 22 58]))))
def yh:AC:=
 (Q (O [mc 2 (.c (.slice .nil 3 []))]) (Q (O [o 15 (.bm a8 1 [(.slice .nil 0 [])] 1 [(0,(.c (.slice .nil 3 [])))]),o 16 (.bd [(.slice .nil 1 []),(.slice .nil 1 []),
 (.int .i64 0),(.bool false),(.slice .nil 1 [])] [(0,1),(1,1),(2,1),(3,1),(4,1)] [(0,(t 15))]),o 17 (.bx jC (t 16)),o 3 (.nw [.nilp] vA),n (.st
 1 (t 3) (t 17))]) (Q (O [o 4 (.nw [(.slice .nil 3 [])] a8)]) (Q (O [mc 5 (s []),mc 6 F]) (Q (O [o 18 (.mf (.func vx) [] [(t 3)]),o 7 (.nw [.nilfn]
 KQ),n (.st 1 (t 7) (t 18))]) (Q (O [o 19 (.mf (.func vy) [] [(t 4),(t 7),(t 3)]),m 8 19]) (Q (Q (O [m 20 0,ls 21 20,mc 22 (i 0)]) (.block 0 (.loop ⟨none,[],
 false⟩ uE))) (Q (O [m 59 8,k 60 (t 59) [F]]) (Q (O [ld 61 3,o 62 (.nc (t 61)),fa 63 0 62,ld 64 63,o 65 (.ias 1 (t 64) (i 0)),ld 66 65,m 2 66]) R)))))))))
def yi:AFn:=⟨yh,67,[.t 2],.keep,[1],none⟩
def jN:AC:=
 (Q (O [mc 2 (.c (.int .i32 0)),mc 3 (i 0)]) (Q (Q (O [m 4 0,ac 5 .neq 4 (s []),m 6 5,g 7 6 (.mv (t 0)),g 8 6 (.ixs (t 7) (i 0)),g 9 6 (.ar .lss (t 8) (u 128)),pf 10 6 9]) (C
 10 (Q (O [m 11 0,o 12 (.ixs (t 11) (i 0)),o 13 (.cvi .i32 (t 12)),m 2 13,mc 3 (i 1)]) R) (O [m 15 0,k1 16 jm 15,m 14 16,ex 17 14 0,ex 18
 14 1,m 2 17,m 3 18]))) R))
def jO:AFn:=⟨jN,19,[.t 2,.t 3],.keep,[],none⟩
def uF:AFn:=lK.k
def lQ:AFn:=dD.k
def pU:AC:=
 (Q (Q (O [m 33 8,m 34 0,lt 35 34,bl 36 33 35]) (C 36 X (.exit 0))) (Q (.block 1 (Q (O [m 39 0,m 40 8,o 41 (.ixs (t 39) (t 40)),k2 42 mh 6 41]) (C 42
 (Q (O [m 43 8,m 4 43]) R) X))) (ic 37 8 38)))
def pV:AC:=
 (Q (O [o 46 (.nx (t 45)),ex 47 46 0]) (Q (C 47 X (.exit 2)) (.block 3 (Q (O [ex 48 46 1,ex 49 46 2,m 9 48,m 10 49]) (Q (O [m 50 1,m 51 10,k2 52 lZ 50 51,ac
 53 .geq 52 (i 0)]) (C 53 (Q (O [m 54 9,m 4 54]) R) X))))))
def rL:AC:=
 (Q (O [mc 4 (i 0)]) (Q (Q (O [m 11 1,ac 12 .eql 11 (s [])]) (C 12 (rt 4 (i (-1))) X)) (Q (Q (O [m 13 1,lt 14 13,ac 15 .eql 14 (i 1)]) (C 15 (Q (O [m 16 1,o 17 (.ixs (t 16) (i
 0)),o 18 (.cvi .i32 (t 17)),m 5 18]) (Q (Q (O [m 19 5,o 20 (.ar .geq (t 19) (.c (.int .i32 128)))]) (C 20 (O [mc 5 (.c (.int .i32 65533))]) X)) (Q (O [m 21 0,m 22 5,k2 23
 lZ 21 22,m 4 23]) R))) X)) (Q (Q (O [m 24 0,lt 25 24,k1 26 mg 25]) (C 26 (Q (O [m 28 1,k1 29 oW 28,m 27 29,ex 30
 27 0,ex 31 27 1,o 6 (.nw (List.replicate 256 (.bool false)) mQ),n (.st 256 (t 6) (t 30)),m 7 31]) (Q (O [m 32 7]) (C 32 (Q (Q (O [mc 8 (i 0)]) (.block 0 (.loop
 ⟨none,[],false⟩ pU))) (rt 4 (i (-1)))) X))) X)) (Q (Q (O [m 44 0,o 45 (.rg (t 44))]) (.block 2 (.loop ⟨none,[],false⟩ pV))) (rt 4 (i
 (-1))))))))
def rM:AFn:=⟨rL,55,[.t 4],.keep,[],none⟩
def qL:AC:=
 (Q (O [mc 4 F]) (Q (O [m 5 0,m 6 1,k2 7 kn 5 6,m 4 7]) R))
def qM:AFn:=⟨qL,8,[.t 4],.keep,[],none⟩
def qN:AC:=
 (Q (O [mc 4 F]) (Q (O [m 5 0,m 6 1,k2 7 ko 5 6,m 4 7]) R))
def qO:AFn:=⟨qN,8,[.t 4],.keep,[],none⟩
def vQ:AC:=
 (Q (Q (O [m 14 6,m 15 5,ls 16 15,bl 17 14 16]) (C 17 X (.exit 0))) (Q (.block 1 (Q (O [m 20 5,m 21 6,ia 22 1 20 21,ld 23 22,o 7 (.nw [(.int .i32 0)] Jl),n (.st 1 (t 7)
 (t 23))]) (Q (Q (O [ld 24 7,o 25 (.ar .neq (t 24) (.c (.int .i32 37)))]) (C 25 (Q (O [m 26 4,o 27 (.mf (.func xN) [] [(t 7)]),o 28 (.bd [.nilfn] [(0,1)] [(0,(t
 27))]),o 29 (.bs 1 [.nilfn] 1 [(0,(t 28))]),o 30 (.ap false nv 1 8 false (t 26) (t 29)),m 4 30]) (.exit 1)) X)) (Q (Q (ic 31 6 32) (Q (O [m 33 6,m 34 5,ls 35 34,ar
 36 .eql 33 35]) (C 36 (Q (O [mc 2 (.c (.slice .nil 1 [])),mc 3 F]) R) X))) (Q (O [o 37 (.bd [.nilfn] [(0,1)] []),o 8 (.nw [.nilfn] nv),n (.st 1 (t 8) (t 37))]) (Q (Q (O
 [m 38 5,m 39 6,ia 40 1 38 39,ld 41 40]) (.block 2 (Q (O [o 43 (.ar .eql (t 41) (.c (.int .i32 97))),m 42 43]) (C 42 (O [fa 44 0 8,n (.st 1 (t 44) (f jI))]) (Q
 (O [o 46 (.ar .eql (t 41) (.c (.int .i32 117))),m 45 46]) (C 45 (O [fa 47 0 8,n (.st 1 (t 47) (f xO))]) (Q (O [o 49 (.ar .eql (t 41) (.c (.int .i32 108))),m 48 49])
 (C 48 (O [fa 50 0 8,n (.st 1 (t 50) (f xP))]) (Q (O [o 52 (.ar .eql (t 41) (.c (.int .i32 100))),m 51 52]) (C 51 (O [fa 53 0 8,n (.st 1 (t 53) (f
 km))]) (Q (O [o 55 (.ar .eql (t 41) (.c (.int .i32 115))),m 54 55]) (C 54 (O [fa 56 0 8,n (.st 1 (t 56) (f nu))]) (Q (O [o 58 (.ar .eql (t 41) (.c
 (.int .i32 112))),m 57 58]) (C 57 (O [fa 59 0 8,n (.st 1 (t 59) (f kO))]) (Q (O [o 61 (.ar .eql (t 41) (.c (.int .i32 104))),m 60 61]) (C 60 (O [fa 62 0 8,n (.st 1
 (t 62) (f xQ))]) (Q (O [o 64 (.ar .eql (t 41) (.c (.int .i32 46))),m 63 64]) (C 63 (O [fa 65 0 8,n (.st 1 (t 65) (f xR))]) (Q (O [o 67 (.ar .eql (t 41) (.c
 (.int .i32 37))),m 66 67]) (C 66 (O [fa 68 0 8,n (.st 1 (t 68) (f xS))]) (Q (O [o 70 (.ar .eql (t 41) (.c (.int .i32 98))),m 69 70]) (C 69 X (Q (O [mc 2 (.c (.slice
 .nil 1 [])),mc 3 F]) R))))))))))))))))))))))) (O [m 71 4,la 72 1 8,o 73 (.bs 1 [.nilfn] 1 [(0,(t 72))]),o 74 (.ap false nv 1 8 false (t 71) (t 73)),m 4 74]))))))) (ic
 18 6 19)))
def zm:AC:=
 (Q (O [mc 2 (.c (.slice .nil 1 [])),mc 3 F]) (Q (Q (O [m 9 0,k1 10 gF 9,no 11 10]) (C 11 (Q (O [mc 2 (.c (.slice .nil 1 [])),mc 3 F]) R) X)) (Q (O [mc 4 (.c (.slice
 .nil 1 []))]) (Q (O [m 12 0,o 13 (.cvsr (t 12)),m 5 13]) (Q (Q (O [mc 6 (i 0)]) (.block 0 (.loop ⟨none,[],false⟩ vQ))) (Q (O [m 75 4,m 2 75,mc 3 T]) R))))))
def zn:AFn:=⟨zm,76,[.t 2,.t 3],.keep,[],none⟩
def mq:AC:=
 (Q (O [mc 2 (.c (.slice .nil 2 []))]) (Q (O [m 3 0,k 4 (f iN) [(.c (.slice .nil 2 [])),(t 3)],m 2 4]) R))
def mr:AFn:=⟨mq,5,[.t 2],.keep,[],none⟩
def tK:AC:=
 (Q (O [o 3 (.bx qG (t 0)),mc 6 F]) (Q (O [fa 7 0 3,ld 8 7,m 9 1,m 10 2,k 11 (f A9) [(t 8),(t 9),(t 10)],m 12 11,g 13 12 (.fa 1 (t 3)),g 14 12 (.ld none
 (t 13)),g 15 12 (.mv (t 1)),g 16 12 (.mv (t 2)),⟨(some 17),(some (12,true)),(.call (.c (.fn (.func yZ) [] [])) [(.t 14),(.t 15),(.t 16)])⟩,pf 18 12 17,m 6 18])
 R))
def tL:AFn:=⟨tK,19,[.t 6],.keep,[],none⟩
def rN:AC:=
 (Q (O [o 3 (.bx ae (t 1))]) (Q (Q (O [m 4 0,o 5 (.nc (t 4)),fa 6 3 5,ld 7 6]) (C 7 (O [m 8 0,k1 9 mP 8]) X)) (Q (O [m 10 0,la 11 3 3,k2 12
 dh 10 11]) (Q (O [m 13 0,o 14 (.nc (t 13)),fa 15 2 14,ld 16 15,ad 17 16,o 18 (.nc (t 13)),fa 19 2 18,n (.st 1 (t 19) (t 17))]) (Q (D [Pm 20 0,P (o 21 (.nc (t
 20))),Pf 22 1 21,Wl 23 22,W (ls 24 23),P (ac 25 .gtr 24 (i 0)),Pm 26 25,P (g 27 26 (.mv (t 0))),P (g 28 26 (.nc (t 27))),P (g 29 26 (.fa 1 (t 28))),W (g 30 26 (.ld none (t
 29))),P (g 31 26 (.ias 1 (t 30) (i 0))),W (g 32 26 (.ld none (t 31))),P (g 33 26 (.mv (t 0))),P (g 34 26 (.nc (t 33))),P (g 35 26 (.fa 2 (t 34))),W (g 36 26 (.ld none (t
 35))),P (g 37 26 (.ar .eql (t 32) (t 36))),P (pf 38 26 37)]) (C 38 (Q (O [m 39 0,m 40 0,o 41 (.nc (t 40)),fa 42 1 41,ld 43 42,o 44 (.sll 1 (t 43) (some (i 1)) none none),o
 45 (.nc (t 39)),fa 46 1 45,n (.st 1 (t 46) (t 44))]) (O [m 47 0,o 48 (.nc (t 47)),fa 49 3 48,n (.st 1 (t 49) T)])) X))))))
def rO:AFn:=⟨rN,50,[],.keep,[],none⟩
def sA:AC:=
 (Q (O [o 3 (.bx ae (t 1))]) (Q (Q (O [m 4 0,o 5 (.nc (t 4)),fa 6 3 5,ld 7 6,m 8 7,g 9 8 (.fa 0 (t 3)),g 10 8 (.ld none (t 9)),g 11 8 (.ar .neq (t 10) (u 3)),pf 12 8
 11]) (C 12 (O [m 13 0,k1 14 mP 13]) X)) (Q (Q (O [fa 15 0 3,ld 16 15]) (.block 0 (Q (O [ac 18 .eql 16 (u 2),m 17 18]) (C 17 (D [Pm 19 0,Pm 20 0,P (o 21 (.nc (t
 20))),Pf 22 4 21,Wl 23 22,Pf 24 1 3,Wl 25 24,P (o 26 (.bs 1 [(.str [])] 1 [(0,(t 25))])),E (o 27 (.ap false aO 1 16 false (t 23) (t 26))),P (o 28 (.nc (t 19))),Pf 29
 4 28,E (n (.st 1 (t 29) (t 27)))]) (Q (O [ac 31 .eql 16 (u 3),m 30 31]) (C 30 (D [Pm 32 0,Pm 33 0,P (o 34 (.nc (t 33))),Pf 35 4 34,Wl 36 35,Pm 37 0,P (o 38 (.nc (t 37))),Pf
 39 4 38,Wl 40 39,W (ls 41 40),P (ac 42 .sub 41 (i 1)),P (o 43 (.sll 1 (t 36) none (some (t 42)) none)),P (o 44 (.nc (t 32))),Pf 45 4 44,E (n (.st 1 (t 45) (t 43)))]) X))))))
 (O [m 46 0,la 47 3 3,k2 48 dh 46 47]))))
def sB:AFn:=⟨sA,49,[],.keep,[],none⟩
def fY:AC:=
 (Q (O [mc 4 F]) (Q (O [m 5 0,m 6 1,k2 7 gR 5 6,ac 8 .geq 7 (i 0),m 4 8]) R))
def fZ:AFn:=⟨fY,9,[.t 4],.keep,[],none⟩
def zo:AC:=
 (Q (O [mc 2 F]) (Q (O [m 3 0,ls 4 3,ac 5 .gtr 4 (i 512),m 2 5]) R))
def zp:AFn:=⟨zo,6,[.t 2],.keep,[],none⟩
def tM:AC:=
 (Q (O [o 26 (.nx (t 25)),ex 27 26 0]) (Q (C 27 X (.exit 3)) (.block 4 (Q (O [ex 28 26 2,m 6 28]) (Q (O [m 29 0,m 30 6,o 31 (.bd [(.int .i32 0),(.bool false)] [(0,1),(1,1)]
 [(0,(t 30))]),k 32 (t 29) [(t 31)],no 33 32]) (C 33 (.exit 0) X))))))
def tN:AC:=
 (Q (O [bl 10 9 8]) (Q (C 10 X (.exit 0)) (Q (.block 1 (Q (O [ia 11 3 7 9,la 12 3 11,o 4 (.nw [(.int .u8 0),(.str []),(.bool false)] ae),n (.st 3 (t 4) (t 12))]) (Q (O
 [fa 13 0 4,ld 14 13]) (.block 2 (Q (O [ac 16 .eql 14 (u 5),m 15 16]) (C 15 (Q (O [m 17 0,o 18 (.bd [(.int .i32 0),(.bool false)] [(0,1),(1,1)] [(1,T)]),k 19 (t 17) [(t
 18)],no 20 19]) (C 20 (.exit 0) X)) (Q (O [ac 22 .eql 14 (u 1),m 21 22]) (C 21 (Q (O [fa 23 1 4,ld 24 23,o 25 (.rg (t 24))]) (.block 3 (.loop ⟨none,[],false⟩
 tM))) X)))))))) (O [ad 34 9,m 9 34]))))
def vR:AC:=
 (.scope (Q (.lbl 0) (Q (O [ld 7 1,ls 8 7,mc 9 (i 0)]) (.block 0 (.loop ⟨none,[],false⟩ tN)))) X)
def vS:AFn:=⟨vR,35,[],.keep,[],none⟩
def rP:AC:=
 (Q (O [o 1 (.bx di (t 0)),mc 2 F]) (Q (O [fa 3 1 1,ld 4 3,no 5 4,m 6 5,g 7 6 (.fa 0 (t 1)),g 8 6 (.ld none (t 7)),g 9 6 (.ar .geq (t 8) (.c (.int .i32 65))),g 10 6
 (.mv (t 9)),g 11 10 (.fa 0 (t 1)),g 12 10 (.ld none (t 11)),g 13 10 (.ar .leq (t 12) (.c (.int .i32 90))),g 14 6 (.pk (t 10) (t 13) F),g 15 6 (.mv (t 14)),h 16 15 (.fa 0 (t
 1)),h 17 15 (.ld none (t 16)),h 18 15 (.ar .geq (t 17) (.c (.int .i32 97))),h 19 15 (.mv (t 18)),g 20 19 (.fa 0 (t 1)),g 21 19 (.ld none (t 20)),g 22 19 (.ar .leq (t 21) (.c
 (.int .i32 122))),h 23 15 (.pk (t 19) (t 22) F),g 24 6 (.pk (t 15) T (t 23)),g 25 6 (.mv (t 24)),h 26 25 (.fa 0 (t 1)),h 27 25 (.ld none (t 26)),h 28 25 (.ar .gtr (t 27) (.c
 (.int .i32 127))),g 29 6 (.pk (t 25) T (t 28)),pf 30 6 29,m 2 30]) R))
def rQ:AFn:=⟨rP,31,[.t 2],.keep,[],none⟩
def sC:AC:=
 (Q (O [o 1 (.bx di (t 0)),mc 2 F]) (Q (O [fa 3 1 1,ld 4 3,no 5 4,m 6 5,g 7 6 (.fa 0 (t 1)),g 8 6 (.ld none (t 7)),g 9 6 (.ar .geq (t 8) (.c (.int .i32 48))),pf 10 6
 9,m 11 10,g 12 11 (.fa 0 (t 1)),g 13 11 (.ld none (t 12)),g 14 11 (.ar .leq (t 13) (.c (.int .i32 57))),pf 15 11 14,m 2 15]) R))
def sD:AFn:=⟨sC,16,[.t 2],.keep,[],none⟩
def sE:AC:=
 (Q (O [o 1 (.bx di (t 0)),mc 2 F]) (Q (O [fa 3 1 1,ld 4 3,no 5 4,m 6 5,g 7 6 (.fa 0 (t 1)),g 8 6 (.ld none (t 7)),g 9 6 (.ar .eql (t 8) (.c (.int .i32 32))),pf 10 6
 9,m 2 10]) R))
def sG:AFn:=⟨sE,11,[.t 2],.keep,[],none⟩
def yj:AC:=
 (Q (O [mc 2 F]) (Q (Q (O [m 8 0,k1 9 kj 8,m 7 9,ex 10 7 0,ex 11 7 1,o 3 (.nw [(.int .u8 0),(.str []),(.bool false)] ae),n (.st 3 (t 3) (t 10)),m 4 11])
 (Q (O [m 12 4]) (C 12 (rt 2 T) X))) (Q (Q (O [m 13 0,ac 14 .eql 13 (s []),m 15 14,h 16 15 (.mv (t 0)),⟨(some 17),(some (15,false)),(.call (.c (.fn (.func gF) []
 [])) [(.t 16)])⟩,h 18 15 (.un .not (t 17)),pt 19 15 18]) (C 19 (rt 2 F) X)) (Q (Q (O [m 21 0,k1 22 Ba 21,m 20 22,ex 23 20 0,ex 24 20 1,m 5 23,m 6 24]) (Q (O [m 25
 6,m 26 25,g 27 26 (.mv (t 5)),g 28 26 (.bd [(.int .i32 0),(.bool false)] [(0,1),(1,1)] [(0,(t 27))]),⟨(some 29),(some (26,true)),(.call (.c (.fn (.func kO)
 [] [])) [(.t 28)])⟩,pf 30 26 29]) (C 30 (rt 2 T) X))) (Q (O [m 31 0,k 32 (f oX) [(t 31),(f vz)],no 33 32,m 2 33]) R)))))
def yk:AFn:=⟨yj,34,[.t 2],.keep,[],none⟩
def Cy:AC:=
 (Q (O [o 2 (.nw [(.int .u8 0),(.str []),(.bool false)] ae),mc 3 F]) (Q (O [m 7 0,k1 8 kj 7,m 6 8,ex 9 6 0,ex 10 6 1,o 4 (.nw [(.int .u8 0),(.str []),
 (.bool false)] ae),n (.st 3 (t 4) (t 9)),m 5 10]) (Q (.dops true [] [] [W (la 11 3 4),Pm 12 5,Pm 13 12,P (g 14 13 (.fa 0 (t 4))),W (g 15 13 (.ld none (t 14))),P (g
 16 13 (.ar .neq (t 15) (u 5))),P (pf 17 13 16),K (n (.st 3 (t 2) (t 11))),Pm 3 17]) R)))
def Cz:AFn:=⟨Cy,18,[.cell 2 (some 3),.t 3],.keep,[],none⟩
def kS:AC:=
 (Q (O [mc 4 F]) (Q (O [m 6 0,o 7 (.nc (t 6)),fa 8 0 7,ld 9 8,ls 10 9,m 5 10]) (Q (Q (O [m 11 5,ac 12 .eql 11 (i 0),m 13 12,h 14 13 (.mv (t 0)),h 15 13 (.nc (t 14)),h 16 13
 (.fa 0 (t 15)),h 17 13 (.ld none (t 16)),h 18 13 (.mv (t 5)),h 19 13 (.ar .sub (t 18) (i 1)),h 20 13 (.ias 1 (t 17) (t 19)),h 21 13 (.ld none (t 20)),h 22 13 (.mv (t 1)),h 23
 13 (.eq true .ptr (t 21) (t 22)),pt 24 13 23]) (C 24 (rt 4 F) X)) (Q (O [m 25 0,m 26 0,o 27 (.nc (t 26)),fa 28 0 27,ld 29 28,m 30 5,ac 31 .sub 30 (i 1),o 32 (.sll 1 (t 29)
 none (some (t 31)) none),o 33 (.nc (t 25)),fa 34 0 33,n (.st 1 (t 34) (t 32))]) (rt 4 T)))))
def kT:AFn:=⟨kS,35,[.t 4],.keep,[],none⟩
def kE:AC:=
 (O [m 4 0,m 5 0,o 6 (.nc (t 5)),fa 7 0 6,ld 8 7,m 9 1,o 10 (.bs 1 [.nilp] 1 [(0,(t 9))]),o 11 (.ap false kQ 1 8 false (t 8) (t 10)),o 12 (.nc (t 4)),fa 13 0
 12,n (.st 1 (t 13) (t 11))])
def kF:AFn:=⟨kE,14,[],.keep,[],none⟩
def qP:AC:=
 (Q (O [mc 2 F]) (Q (D [Pm 3 0,P (o 4 (.nc (t 3))),Pf 5 5 4,Wl 6 5,Pm 7 0,P (o 8 (.nc (t 7))),Pf 9 6 8,Wl 10 9,P (bl 11 6 10),Pm 2 11]) R))
def qQ:AFn:=⟨qP,12,[.t 2],.keep,[],none⟩
def gu:AC:=
 (Q (O [mc 2 (.c (.slice .nil 1 []))]) (Q (Q (O [m 3 0,o 4 (.eq false .sl (t 3) (.c (.slice .nil 0 [])))]) (C 4 (Q (O [mc 2 (.c (.slice .nil 1 []))]) R) X)) (Q (O [o 5 (.bs 1
 [.nilp] 0 []),m 6 0,o 7 (.ap false kQ 1 8 false (t 5) (t 6)),m 2 7]) R)))
def gv:AFn:=⟨gu,8,[.t 2],.keep,[],none⟩
def fe:AC:=
 (O [m 4 0,m 5 0,ls 6 5,m 7 1,k 8 (f jA) [(t 4),(t 6),(t 7)]])
def ff:AFn:=⟨fe,9,[],.keep,[],none⟩
def zq:AC:=
 (Q (O [mc 4 (i 0)]) (Q (Q (D [Pm 5 0,P (o 6 (.nc (t 5))),Pf 7 5 6,Wl 8 7,Pm 9 1,P (o 10 (.nc (t 9))),Pf 11 5 10,Wl 12 11,P (ar 13 .neq 8 12)]) (C 13 (Q (D [Pm 14 0,P (o 15
 (.nc (t 14))),Pf 16 5 15,Wl 17 16,Pm 18 1,P (o 19 (.nc (t 18))),Pf 20 5 19,Wl 21 20,P (ar 22 .sub 17 21),Pm 4 22]) R) X)) (Q (.block 0 (Q (O [m 24 0,k1 25
 cF 24,no 26 25,m 27 26,g 28 27 (.mv (t 1)),⟨(some 29),(some (27,true)),(.call (.c (.fn (.func cF) [] [])) [(.t 28)])⟩,pf 30 27 29,m 23
 30]) (C 23 (rt 4 (i (-1))) (Q (O [m 32 0,k1 33 cF 32,m 34 33,g 35 34 (.mv (t 1)),⟨(some 36),(some (34,true)),(.call (.c (.fn (.func cF) []
 [])) [(.t 35)])⟩,g 37 34 (.un .not (t 36)),pf 38 34 37,m 31 38]) (C 31 (rt 4 (i 1)) X))))) (rt 4 (i 0)))))
def zr:AFn:=⟨zq,39,[.t 4],.keep,[],none⟩
def uG:AC:=
 (O [ld 1 0,o 2 (.bd [(.int .u8 0),(.str []),(.bool false)] [(0,1),(1,1),(2,1)] [(0,(u 1)),(1,(s [32]))]),k2 3 dh 1 2])
def uH:AFn:=⟨uG,4,[],.keep,[],none⟩
def sH:AC:=
 (Q (O [o 3 (.bx ae (t 1))]) (Q (O [m 6 0,o 7 (.nc (t 6)),fa 8 0 7,ld 9 8,ls 10 9,ac 11 .sub 10 (i 1),m 4 11]) (Q (Q (O [m 12 0,o 13 (.nc (t 12)),fa 14 0 13,ld 15
 14,m 16 4,ia 17 1 15 16,ld 18 17,ls 19 18,m 5 19]) (Q (O [fa 20 0 3,ld 21 20,ac 22 .eql 21 (u 1),m 23 22,g 24 23 (.mv (t 5)),g 25 23 (.ar .gtr (t 24) (i 0)),pf 26 23 25,
 m 27 26,g 28 27 (.mv (t 0)),g 29 27 (.nc (t 28)),g 30 27 (.fa 0 (t 29)),g 31 27 (.ld none (t 30)),g 32 27 (.mv (t 4)),g 33 27 (.ias 1 (t 31) (t 32)),g 34 27 (.ld none (t
 33)),g 35 27 (.mv (t 5)),g 36 27 (.ar .sub (t 35) (i 1)),g 37 27 (.ias 3 (t 34) (t 36)),g 38 27 (.fa 0 (t 37)),g 39 27 (.ld none (t 38)),g 40 27 (.ar .eql (t 39) (u 1)),pf 41
 27 40]) (C 41 (Q (D [Pm 42 0,P (o 43 (.nc (t 42))),Pf 44 0 43,Wl 45 44,Pm 46 4,P (ia 47 1 45 46),Wl 48 47,Pm 49 5,P (ac 50 .sub 49 (i 1)),P (ia 51 3 48 50),Pf 52 1 51,Wl
 53 52,Pf 54 1 3,Wl 55 54,P (ar 56 .add 53 55),P (ia 57 3 48 50),Pf 58 1 57,E (n (.st 1 (t 58) (t 56)))]) R) X))) (.dops true [] [] [Pm 59 0,P (o 60 (.nc (t 59))),Pf 61 0 60,
 Wl 62 61,Pm 63 4,Pm 64 0,P (o 65 (.nc (t 64))),Pf 66 0 65,(ld 67 66,.quiet),Pm 68 4,P (ia 69 1 67 68),(ld 70 69,.quiet),(la 71 3 3,.quiet),P (o 72 (.bs 3 [(.int .u8 0),
 (.str []),(.bool false)] 1 [(0,(t 71))])),K (o 73 (.ap true ae 3 32 false (t 70) (t 72))),P (ia 74 1 62 63),K (n (.st 1 (t 74) (t 73)))]))))
def sI:AFn:=⟨sH,75,[],.keep,[5],none⟩
def sJ:AC:=
 (Q (O [bl 10 9 8]) (Q (C 10 X (.exit 0)) (Q (.block 1 (Q (O [ia 11 3 7 9,la 12 3 11,o 6 (.nw [(.int .u8 0),(.str []),(.bool false)] ae),n (.st 3 (t 6) (t 12))]) (Q (Q
 (O [m 13 0,m 14 13,g 15 14 (.fa 0 (t 6)),g 16 14 (.ld none (t 15)),g 17 14 (.ar .neq (t 16) (u 3)),pf 18 14 17]) (C 18 (Q (O [ld 19 2,k 20 (t 19) []]) (O [mc 0 F])) X)) (O [ld
 21 3,la 22 3 6,k2 23 dh 21 22])))) (O [ad 24 9,m 9 24]))))
def uI:AC:=
 (Q (Q (O [ld 7 1,ls 8 7,mc 9 (i 0)]) (.block 0 (.loop ⟨none,[],false⟩ sJ))) (Q (Q (O [m 25 0]) (C 25 (O [ld 26 2,k 27 (t 26) []]) X)) (O [n (.st 1 (t 1) (.c
 (.slice .nil 3 [])))])))
def uJ:AFn:=⟨uI,28,[],.keep,[],none⟩
def yl:AC:=
 (Q (O [mc 4 F]) (Q (O [o 5 (.bs 1 [(.str [])] 8 [(0,(s [46])),(1,(s [44])),(2,(s [59])),(3,(s [58])),(4,(s [33])),(5,(s [63])),(6,(s [41])),(7,(s [93]))]),m 6 1,k2
 7 kD 5 6,no 8 7,m 9 8,g 10 9 (.mv (t 0)),g 11 9 (.ar .neq (t 10) (s [40])),pf 12 9 11,m 13 12,g 14 13 (.mv (t 0)),g 15 13 (.ar .neq (t 14) (s
 [91])),pf 16 13 15,m 4 16]) R))
def ym:AFn:=⟨yl,17,[.t 4],.keep,[],none⟩
def lA:AFn:=eJ.k
def pa:AC:=
 (Q (O [o 176 (.nx (t 175)),ex 177 176 0]) (Q (C 177 X (.exit 9)) (.block 10 (Q (O [ex 178 176 1,ex 179 176 2,m 5 178,m 6 179]) (Q (O [m 180 6,o 181 (.ar .eql (t 180) (.c (.int
 .i32 65533)))]) (C 181 (Q (O [m 182 5,m 4 182]) R) X))))))
def pb:AC:=
 (Q (Q (O [m 48 12,m 49 7,lt 50 49,bl 51 48 50]) (C 51 X (.exit 3))) (Q (.block 4 (Q (D [Pm 54 0,Pm 55 9,Pm 56 12,P (ar 57 .sub 55 56),P (o 58 (.ixs (t 54) (t 57))),Pm 59 7,
 Pm 60 8,Pm 61 12,P (ar 62 .sub 60 61),P (o 63 (.ixs (t 59) (t 62))),P (ar 64 .neq 58 63)]) (C 64 (.goto 0) X))) (ic 52 12 53)))
def pc:AC:=
 (Q X (Q (ic 68 10 69) (Q (ic 70 9 71) (Q (O [mc 72 T,g 73 72 (.mv (t 10)),g 74 72 (.mv (t 9)),⟨(some 75),(some (72,true)),(.call (.c (.fn (.func eZ) []
 [])) [(.t 74)])⟩,g 76 72 (.ar .gtr (t 73) (t 75)),pf 77 72 76,m 78 77,g 79 78 (.mv (t 9)),g 80 78 (.mv (t 0)),g 81 78 (.len .str (t 80)),g 82 78 (.ar .lss (t 79) (t 81)),pf
 83 78 82,m 84 83,h 85 84 (.mv F),g 86 85 (.mv (t 10)),g 87 85 (.mv (t 9)),g 88 85 (.sh .shr (t 87) (.c (.int .u64 4))),g 89 85 (.ar .add (i 4) (t 88)),g 90 85 (.ar .geq (t
 86) (t 89)),h 91 84 (.pk (t 85) (t 90) F),h 92 84 (.mv (t 91)),g 93 92 (.mv (t 9)),g 94 92 (.mv (t 0)),g 95 92 (.len .str (t 94)),g 96 92 (.ar .lss (t 93) (t 95)),h 97 84
 (.pk (t 92) (t 96) F),pt 98 84 97]) (C 98 (.goto 1) X)))))
def pd:AC:=
 (Q (Q (O [m 23 9,m 24 0,lt 25 24,bl 26 23 25]) (C 26 X (.exit 1))) (.block 2 (.scope (Q (Q (D [Pm 27 0,Pm 28 9,P (o 29 (.ixs (t 27) (t 28))),Pm 30 7,Pm 31 8,P (o 32 (.ixs (t
 30) (t 31))),P (ar 33 .neq 29 32)]) (C 33 (Q (D [Pm 34 0,Pm 35 9,P (ad 36 35),P (o 37 (.sls (t 34) (some (t 36)) none)),Pm 38 7,Pm 39 8,P (o 40 (.ixs (t 38) (t 39))),E (k2
 41 l5 37 40),Pm 11 41]) (Q (Q (O [m 42 11,ac 43 .lss 42 (i 0)]) (C 43 (rt 4 (i (-1))) X)) (O [m 44 9,m 45 11,ad 46 45,ar 47 .add 44 46,m 9 47]))) X)) (Q (Q (O
 [mc 12 (i 1)]) (.block 3 (.loop ⟨none,[],false⟩ pb))) (Q (Q (O [m 65 9,m 66 8,ar 67 .sub 65 66,m 4 67]) R) (Q (.lbl 0) (Q (ic 68 10 69) (Q (ic 70 9 71) (Q
 (O [mc 72 T,g 73 72 (.mv (t 10)),g 74 72 (.mv (t 9)),⟨(some 75),(some (72,true)),(.call (.c (.fn (.func eZ) [] [])) [(.t 74)])⟩,g 76 72 (.ar .gtr (t
 73) (t 75)),pf 77 72 76,m 78 77,g 79 78 (.mv (t 9)),g 80 78 (.mv (t 0)),g 81 78 (.len .str (t 80)),g 82 78 (.ar .lss (t 79) (t 81)),pf 83 78 82,m 84 83,h 85 84 (.mv F),g
 86 85 (.mv (t 10)),g 87 85 (.mv (t 9)),g 88 85 (.sh .shr (t 87) (.c (.int .u64 4))),g 89 85 (.ar .add (i 4) (t 88)),g 90 85 (.ar .geq (t 86) (t 89)),h 91 84 (.pk (t 85) (t 90)
 F),h 92 84 (.mv (t 91)),g 93 92 (.mv (t 9)),g 94 92 (.mv (t 0)),g 95 92 (.len .str (t 94)),g 96 92 (.ar .lss (t 93) (t 95)),h 97 84 (.pk (t 92) (t 96) F),pt 98 84 97]) (C 98
 (.goto 1) X)))))))) (.tab 0 pc X))))
def pg:AC:=
 (Q (Q (O [m 140 16,m 141 7,lt 142 141,bl 143 140 142]) (C 143 X (.exit 7))) (Q (.block 8 (Q (D [Pm 146 0,Pm 147 9,Pm 148 16,P (ar 149 .sub 147 148),P (o 150 (.ixs (t 146) (t
 149))),Pm 151 7,Pm 152 8,Pm 153 16,P (ar 154 .sub 152 153),P (o 155 (.ixs (t 151) (t 154))),P (ar 156 .neq 150 155)]) (C 156 (.exit 6) X))) (ic 144 16 145)))
def ph:AC:=
 (Q (Q (O [m 121 9,m 122 0,lt 123 122,bl 124 121 123]) (C 124 X (.exit 5))) (Q (.block 6 (Q (O [m 127 0,m 128 9,o 129 (.ixs (t 127) (t 128)),m 130 14,ar 131 .eql 129 130,m
 132 131,g 133 132 (.mv (t 0)),g 134 132 (.mv (t 9)),g 135 132 (.ar .sub (t 134) (i 1)),g 136 132 (.ixs (t 133) (t 135)),g 137 132 (.mv (t 15)),g 138 132 (.ar .eql (t 136) (t
 137)),pf 139 132 138]) (C 139 (Q (Q (O [mc 16 (i 2)]) (.block 7 (.loop ⟨none,[],false⟩ pg))) (Q (O [m 157 9,m 158 8,ar 159 .sub 157 158,m 4 159]) R)) X)))
 (ic 125 9 126)))
def qR:AC:=
 (Q (O [mc 4 (i 0)]) (.block 0 (Q (O [m 161 1,o 162 (.ar .leq (.c (.int .i32 0)) (t 161)),m 163 162,g 164 163 (.mv (t 1)),g 165 163 (.ar .lss (t 164) (.c (.int .i32 128))),pf
 166 163 165,m 160 166]) (C 160 (Q (O [m 167 0,m 168 1,o 169 (.cvi .u8 (t 168)),k2 170 l5 167 169,m 4 170]) R) (Q (O [m 172 1,o 173 (.ar .eql (t 172) (.c (.int
 .i32 65533))),m 171 173]) (C 171 (Q (Q (O [m 174 0,o 175 (.rg (t 174))]) (.block 9 (.loop ⟨none,[],false⟩ pa))) (rt 4 (i (-1)))) (Q (O [m 184 1,k1 185
 nE 184,no 186 185,m 183 186]) (C 183 (rt 4 (i (-1))) (.scope (Q (O [m 17 1,o 18 (.cvs (t 17)),m 7 18]) (Q (O [m 19 7,lt 20 19,ac 21 .sub 20 (i 1),m 8
 21]) (Q (O [m 22 8,m 9 22]) (Q (O [mc 10 (i 0)]) (Q (.block 1 (.loop ⟨none,[],false⟩ pd)) (Q (rt 4 (i (-1))) (Q (.lbl 1) (Q (.cond (.c (.bool true)) (Q (O [m
 99 0,m 100 9,m 101 8,ar 102 .sub 100 101,o 103 (.sls (t 99) (some (t 102)) none),m 104 1,o 105 (.cvs (t 104)),k2 106 eb 103 105,m 13 106]) (Q (O
 [m 107 13,ac 108 .geq 107 (i 0)]) (C 108 (Q (O [m 109 9,m 110 13,ar 111 .add 109 110,m 112 8,ar 113 .sub 111 112,m 4 113]) R) X))) (.scope (Q (O [m 114 7,m 115 8,o 116 (.ixs
 (t 114) (t 115)),m 14 116]) (Q (O [m 117 7,m 118 8,ac 119 .sub 118 (i 1),o 120 (.ixs (t 117) (t 119)),m 15 120]) (Q (.lbl 2) (.block 5 (.loop ⟨none,[],false⟩
 ph))))) X)) (rt 4 (i (-1))))))))))) X)))))))))
def qS:AFn:=⟨qR,187,[.t 4],.keep,[],none⟩
def lR:AC:=
 (Q (O [mc 2 F]) (Q (O [m 3 0,ac 4 .gtr 3 (i 8),m 2 4]) R))
def lS:AFn:=⟨lR,5,[.t 2],.keep,[],none⟩
def m9:AC:=
 (Q (Q (O [m 6 4,m 7 0,lt 8 7,bl 9 6 8]) (C 9 X (.exit 0))) (Q (.block 1 (Q (O [m 12 0,m 13 4,o 14 (.ixs (t 12) (t 13)),m 5 14]) (Q (Q (O [m 15 5,ac 16 .geq 15 (u 128)]) (C 16
 (Q (O [la 17 256 2,n (.st 256 (t 2) (t 17)),mc 3 F]) R) X)) (O [m 18 5,o 19 (.iaa 256 1 (t 2) (t 18)),n (.st 1 (t 19) T)])))) (ic 10 4 11)))
def og:AC:=
 (Q (O [o 2 (.nw (List.replicate 256 (.bool false)) mQ),mc 3 F]) (Q (Q (O [mc 4 (i 0)]) (.block 0 (.loop ⟨none,[],false⟩ m9))) (Q (O [la 20
 256 2,n (.st 256 (t 2) (t 20)),mc 3 T]) R)))
def oh:AFn:=⟨og,21,[.cell 2 (some 256),.t 3],.keep,[],none⟩
def lT:AC:=
 (Q (O [mc 4 F]) (Q (O [m 5 0,m 6 1,o 7 (.nc (t 5)),o 8 (.iaa 256 1 (t 7) (t 6)),ld 9 8,m 4 9]) R))
def lU:AFn:=⟨lT,10,[.t 4],.keep,[],none⟩
def jW:AC:=
 (Q (O [mc 4 F]) (Q (O [m 5 0,lt 6 5,m 7 1,lt 8 7,ar 9 .geq 6 8,m 10 9,g 11 10 (.mv (t 0)),g 12 10 (.mv (t 1)),g 13 10 (.len .str (t 12)),g 14 10 (.sls (t 11) none (some (t
 13))),g 15 10 (.mv (t 1)),g 16 10 (.ar .eql (t 14) (t 15)),pf 17 10 16,m 4 17]) R))
def jX:AFn:=⟨jW,18,[.t 4],.keep,[],none⟩
def jY:AC:=
 (Q (O [mc 4 F]) (Q (O [m 5 0,lt 6 5,m 7 1,lt 8 7,ar 9 .geq 6 8,m 10 9,g 11 10 (.mv (t 0)),g 12 10 (.mv (t 0)),g 13 10 (.len .str (t 12)),g 14 10 (.mv (t 1)),g 15 10 (.len
 .str (t 14)),g 16 10 (.ar .sub (t 13) (t 15)),g 17 10 (.sls (t 11) (some (t 16)) none),g 18 10 (.mv (t 1)),g 19 10 (.ar .eql (t 17) (t 18)),pf 20 10 19,m 4 20]) R))
def jZ:AFn:=⟨jY,21,[.t 4],.keep,[],none⟩
def vT:AC:=
 (Q (O [o 2 (.bx di (t 0)),mc 3 F]) (Q (O [fa 4 1 2,ld 5 4,no 6 5,m 7 6,g 8 7 (.fa 0 (t 2)),g 9 7 (.ld none (t 8)),g 10 7 (.ld none (t 1)),g 11 7 (.ar .eql (t 9) (t
 10)),pf 12 7 11,m 3 12]) R))
def vU:AFn:=⟨vT,13,[.t 3],.keep,[],none⟩
def vV:AC:=
 (Q (O [o 1 (.bx di (t 0)),mc 2 F]) (Q (O [fa 3 1 1,ld 4 3,no 5 4,m 6 5,g 7 6 (.fa 0 (t 1)),g 8 6 (.ld none (t 7)),g 9 6 (.ar .geq (t 8) (.c (.int .i32 65))),pf 10 6
 9,m 11 10,g 12 11 (.fa 0 (t 1)),g 13 11 (.ld none (t 12)),g 14 11 (.ar .leq (t 13) (.c (.int .i32 90))),pf 15 11 14,m 2 15]) R))
def vW:AFn:=⟨vV,16,[.t 2],.keep,[],none⟩
def vX:AC:=
 (Q (O [o 1 (.bx di (t 0)),mc 2 F]) (Q (O [fa 3 1 1,ld 4 3,no 5 4,m 6 5,g 7 6 (.fa 0 (t 1)),g 8 6 (.ld none (t 7)),g 9 6 (.ar .geq (t 8) (.c (.int .i32 97))),pf 10 6
 9,m 11 10,g 12 11 (.fa 0 (t 1)),g 13 11 (.ld none (t 12)),g 14 11 (.ar .leq (t 13) (.c (.int .i32 122))),pf 15 11 14,m 2 15]) R))
def vY:AFn:=⟨vX,16,[.t 2],.keep,[],none⟩
def vZ:AC:=
 (Q (O [o 1 (.bx di (t 0)),mc 2 F]) (Q (O [fa 3 1 1,ld 4 3,m 2 4]) R))
def v8:AFn:=⟨vZ,5,[.t 2],.keep,[],none⟩
def wa:AC:=
 (Q (O [o 1 (.bx di (t 0)),mc 2 F]) (rt 2 T))
def wc:AFn:=⟨wa,3,[.t 2],.keep,[],none⟩
def we:AC:=
 (Q (O [o 1 (.bx di (t 0)),mc 2 F]) (Q (O [fa 3 1 1,ld 4 3,no 5 4,m 6 5,g 7 6 (.fa 0 (t 1)),g 8 6 (.ld none (t 7)),g 9 6 (.ar .eql (t 8) (.c (.int .i32 37))),pf 10 6
 9,m 2 10]) R))
def wg:AFn:=⟨we,11,[.t 2],.keep,[],none⟩
def gy:AC:=
 (.block 1 (O [ld 8 2,la 9 2 5,o 10 (.bs 2 [(.int .i32 0),(.bool false)] 1 [(0,(t 9))]),o 11 (.ap false di 2 8 false (t 8) (t 10)),n (.st 1 (t 2) (t 11))]))
def iA:AC:=
 (Q (O [o 2 (.bx xV (t 0)),mc 4 (.c (.slice .nil 2 []))]) (Q (Q (O [m 6 1]) (.block 0 (.rfn (.t 6) [7] [[o 5 (.nw [(.int .i32 0),(.bool false)] di),n (.st 2
 (t 5) (t 7))]] gy))) (Q (O [ld 12 2,m 4 12]) R)))
def iB:AFn:=⟨iA,13,[.t 4],.keep,[],none⟩
def wh:AC:=
 (Q (Q (O [m 11 7,ac 12 .geq 11 (i 0)]) (C 12 X (.exit 0))) (Q (.block 1 (Q (Q (O [m 15 0,m 16 7,ia 17 1 15 16,fa 18 0 17,ld 19 18,o 20 (.eq false .fn (t 19) (.c .nilfn))]) (C
 20 (Q (Q (O [m 21 1,m 22 2,k2 23 vj 21 22,no 24 23]) (C 24 (rt 6 F) X)) (.exit 1)) X)) (Q (Q (D [Pm 25 2,P (ac 26 .eql 25 (i 0)),Pm 27 26,P (h 28 27 (.mv (t 0))),P
 (h 29 27 (.mv (t 7))),P (h 30 27 (.ias 1 (t 28) (t 29))),P (h 31 27 (.fa 0 (t 30))),W (h 32 27 (.ld none (t 31))),P (h 33 27 (.mv (t 1))),P (h 34 27 (.mv (t 2))),P (h 35 27
 (.ar .sub (t 34) (i 1))),P (h 36 27 (.ias 2 (t 33) (t 35))),W (h 37 27 (.ld (some 2) (t 36))),E (⟨(some 38),(some (27,false)),(.call (.t 32) [(.t 37)])⟩),P (h 39 27 (.un .not
 (t 38))),P (pt 40 27 39)]) (C 40 (rt 6 F) X)) (O [m 41 2,ac 42 .sub 41 (i 1),m 2 42])))) (O [m 13 7,ac 14 .sub 13 (i 1),m 7 14])))
def zt:AC:=
 (Q (O [mc 6 F]) (Q (Q (O [m 8 0,ls 9 8,ac 10 .sub 9 (i 1),m 7 10]) (.block 0 (.loop ⟨none,[],false⟩ wh))) (rt 6 T)))
def zu:AFn:=⟨zt,43,[.t 6],.keep,[],none⟩
def uK:AC:=
 (Q (O [bl 12 11 10]) (Q (C 12 X (.exit 0)) (Q (.block 1 (Q (O [ia 13 1 9 11,la 14 1 13,o 8 (.nw [.nilfn] nv),n (.st 1 (t 8) (t 14))]) (Q (Q (O [fa 15 0 8,ld 16 15,o 17
 (.eq false .fn (t 16) (.c .nilfn))]) (C 17 (Q (Q (O [m 18 1,m 19 2,k2 20 vj 18 19,no 21 20]) (C 21 (rt 6 F) X)) (.exit 1)) X)) (Q (Q (D [Pm 22 2,Pm 23 1,W (ls 24 23),
 P (ar 25 .eql 22 24),Pm 26 25,P (h 27 26 (.fa 0 (t 8))),W (h 28 26 (.ld none (t 27))),P (h 29 26 (.mv (t 1))),P (h 30 26 (.mv (t 2))),P (h 31 26 (.ias 2 (t 29) (t 30))),W (h
 32 26 (.ld (some 2) (t 31))),E (⟨(some 33),(some (26,false)),(.call (.t 28) [(.t 32)])⟩),P (h 34 26 (.un .not (t 33))),P (pt 35 26 34)]) (C 35 (rt 6 F) X)) (ic 36 2 37))))) (O
 [ad 38 11,m 11 38]))))
def yn:AC:=
 (Q (O [mc 6 F]) (Q (Q (O [m 9 0,ls 10 9,mc 11 (i 0)]) (.block 0 (.loop ⟨none,[],false⟩ uK))) (rt 6 T)))
def yo:AFn:=⟨yn,39,[.t 6],.keep,[],none⟩
def pW:AC:=
 (Q (Q (O [m 11 2,ac 12 .geq 11 (i 0)]) (C 12 X (.exit 0))) (Q (.block 1 (O [m 15 0,m 16 0,o 17 (.nc (t 16)),fa 18 4 17,ld 19 18,m 20 2,ia 21 1 19 20,ld 22 21,o 23 (.bd
 [(.int .u8 0),(.str []),(.bool false)] [(0,1),(1,1),(2,1)] [(0,(u 3)),(1,(t 22)),(2,T)]),k2 24 dh 15 23])) (O [m 13 2,ac 14 .sub 13 (i 1),m 2 14])))
def pX:AC:=
 (Q (O [bl 40 39 38]) (Q (C 40 X (.exit 2)) (Q (.block 3 (Q (O [ia 41 1 37 39,ld 42 41,m 4 42]) (O [m 43 0,m 44 4,o 45 (.bd [(.int .u8 0),(.str []),(.bool false)] [(0,1),(1,
 1),(2,1)] [(0,(u 2)),(1,(t 44)),(2,T)]),k2 46 dh 43 45]))) (O [ad 47 39,m 39 47]))))
def rR:AC:=
 (Q (Q (O [m 5 0,o 6 (.nc (t 5)),fa 7 4 6,ld 8 7,ls 9 8,ac 10 .sub 9 (i 1),m 2 10]) (.block 0 (.loop ⟨none,[],false⟩ pW))) (Q (O [m 25 0,m 26 0,o 27 (.nc
 (t 26)),fa 28 0 27,ld 29 28,o 30 (.bm a8 1 [(.slice .nil 0 [])] 1 [(0,(.c (.slice .nil 3 [])))]),o 31 (.ap true a8 1 24 false (t 29) (t 30)),o 32 (.nc
 (t 25)),fa 33 0 32,n (.st 1 (t 33) (t 31))]) (Q (Q (O [m 34 0,o 35 (.nc (t 34)),fa 36 4 35,ld 37 36,ls 38 37,mc 39 (i 0)]) (.block 2 (.loop ⟨none,[],false⟩
 pX))) (O [m 48 0,o 49 (.nc (t 48)),fa 50 3 49,n (.st 1 (t 50) F)]))))
def rS:AFn:=⟨rR,51,[],.keep,[4],none⟩
def gd:AC:=
 (Q (O [bl 9 8 7]) (Q (C 9 X (.exit 0)) (Q (.block 1 (Q (O [m 10 8,m 5 10]) (Q (O [m 11 1,m 12 0,m 13 5,ia 14 1 12 13,ld 15 14,k 16 (t 11) [(t 15)]]) (C 16 (Q (O [m 17 5,m 4
 17]) R) X)))) (O [ad 18 8,m 8 18]))))
def gz:AC:=
 (Q (O [mc 4 (i 0)]) (Q (Q (O [m 6 0,ls 7 6,mc 8 (i 0)]) (.block 0 (.loop ⟨none,[],false⟩ gd))) (rt 4 (i (-1)))))
def gA:AFn:=⟨gz,19,[.t 4],.keep,[],none⟩
def zw:AC:=
 (Q (O [mc 2 (.c (.int .i32 0)),mc 3 F]) (Q (O [m 7 0,k1 8 bV 7,m 6 8,ex 9 6 0,ex 10 6 1,m 4 9,m 5 10]) (Q (O [m 11 4,m 12 5,m 13 0,lt 14 13,
 ar 15 .eql 12 14,m 2 11,m 3 15]) R)))
def zx:AFn:=⟨zw,16,[.t 2,.t 3],.keep,[],none⟩
def om:AC:=
 (Q (O [mc 4 F]) (Q (O [m 5 0,m 6 1,k2 7 rG 5 6,ac 8 .geq 7 (i 0),m 4 8]) R))
def oo:AFn:=⟨om,9,[.t 4],.keep,[],none⟩
def uL:AC:=
 (Q (O [mc 2 F]) (Q (O [m 3 0,o 4 (.bd [(.int .i32 0),(.bool false)] [(0,1),(1,1)] [(0,(t 3))]),k1 5 jl 4,no 6 5,m 2 6]) R))
def uM:AFn:=⟨uL,7,[.t 2],.keep,[],none⟩
def i5:AC:=
 (Q (Q (O [m 11 8,m 12 1,ar 13 .leq 11 12]) (C 13 X (.exit 0))) (.block 1 (Q (O [m 14 0,m 15 7,m 16 8,m 17 2,k 18 (f dH) [(t 14),(t
 15),(t 16),(t 17)]]) (Q (O [m 19 8,m 7 19]) (O [m 20 8,m 21 6,ar 22 .add 20 21,m 8 22])))))
def i6:AC:=
 (Q (Q (O [m 33 8,m 34 1,ar 35 .leq 33 34]) (C 35 X (.exit 4))) (.block 5 (Q (O [m 36 0,m 37 7,m 38 7,m 39 6,ar 40 .add 38 39,m 41 8,m 42 2,k 43 (f
 b3) [(t 36),(t 37),(t 40),(t 41),(t 42)]]) (Q (O [m 44 8,m 7 44]) (O [m 45 8,m 46 6,o 47 (.ar .mul (i 2) (t 46)),ar 48 .add 45 47,m 8
 48])))))
def i7:AC:=
 (Q (Q (O [m 28 6,m 29 1,bl 30 28 29]) (C 30 X (.exit 2))) (.block 3 (Q (O [m 31 6,o 32 (.ar .mul (i 2) (t 31)),mc 7 (i 0),m 8 32]) (Q (.block 4 (.loop ⟨none,[],false⟩
 i6)) (Q (Q (O [m 49 7,m 50 6,ar 51 .add 49 50,m 9 51]) (Q (O [m 52 9,m 53 1,bl 54 52 53]) (C 54 (O [m 55 0,m 56 7,m 57 9,m 58 1,m 59 2,
 k 60 (f b3) [(t 55),(t 56),(t 57),(t 58),(t 59)]]) X))) (O [m 61 6,ac 62 .mul 61 (i 2),m 6 62]))))))
def js:AC:=
 (Q (O [mc 6 (i 20)]) (Q (O [m 10 6,mc 7 (i 0),m 8 10]) (Q (.block 0 (.loop ⟨none,[],false⟩ i5)) (Q (O [m 23 0,m 24 7,m 25 1,m 26 2,k 27
 (f dH) [(t 23),(t 24),(t 25),(t 26)]]) (.block 2 (.loop ⟨none,[],false⟩ i7))))))
def jt:AFn:=⟨js,63,[],.keep,[],none⟩
def kA:AC:=
 (Q (O [mc 4 F]) (Q (O [m 5 0,m 6 1,k2 7 lG 5 6,ac 8 .geq 7 (i 0),m 4 8]) R))
def kB:AFn:=⟨kA,9,[.t 4],.keep,[],none⟩
def j0:AFn:=dN.k
def mw:AFn:=i0.k
def gB:AFn:=ea.k
def qT:AC:=
 (Q (O [mc 4 (i 0)]) (Q (O [m 5 0,m 6 1,k2 7 cK 5 6,m 4 7]) R))
def qV:AFn:=⟨qT,8,[.t 4],.keep,[],none⟩
def na:AC:=
 (Q (O [mc 2 F]) (Q (.block 0 (Q (O [m 4 0,o 5 (.ar .leq (.c (.int .i32 0)) (t 4)),m 6 5,g 7 6 (.mv (t 0)),g 8 6 (.ar .lss (t 7) (.c (.int .i32 55296))),pf 9 6 8,m 3 9]) (C 3
 (rt 2 T) (Q (O [m 11 0,o 12 (.ar .lss (.c (.int .i32 57343)) (t 11)),m 13 12,g 14 13 (.mv (t 0)),g 15 13 (.ar .leq (t 14) (.c (.int .i32 1114111))),pf 16 13 15,m 10 16]) (C 10
 (rt 2 T) X))))) (rt 2 F)))
def nd:AFn:=⟨na,17,[.t 2],.keep,[],none⟩
def Bj:AC:=
 (Q (O [mc 4 F]) (Q (O [m 5 1,ac 6 .eql 5 (i 0),m 7 6,h 8 7 (.mv (t 1)),h 9 7 (.mv (t 0)),h 10 7 (.len .sl (t 9)),h 11 7 (.ar .eql (t 8) (t 10)),pt 12 7 11,m 13 12,h 14 13
 (.mv (t 0)),h 15 13 (.mv (t 1)),h 16 13 (.ar .sub (t 15) (i 1)),h 17 13 (.ias 2 (t 14) (t 16)),h 18 13 (.ld (some 2) (t 17)),⟨(some 19),(some (13,false)),(.call (.c (.fn
 (.func jl) [] [])) [(.t 18)])⟩,h 20 13 (.un .not (t 19)),pt 21 13 20,m 22 21,h 23 22 (.mv (t 0)),h 24 22 (.mv (t 1)),h 25 22 (.ias 2 (t 23) (t 24)),h 26 22 (.ld
 (some 2) (t 25)),⟨(some 27),(some (22,false)),(.call (.c (.fn (.func jl) [] [])) [(.t 26)])⟩,h 28 22 (.un .not (t 27)),pt 29 22 28,m 4 29]) R))
def Bk:AFn:=⟨Bj,30,[.t 4],.keep,[],none⟩
def qW:AC:=
 (Q (O [mc 4 (i 0)]) (Q (O [m 5 0,m 6 1,k 7 (f rH) [(t 5),(t 6),T],m 4 7]) R))
def qX:AFn:=⟨qW,8,[.t 4],.keep,[],none⟩
def fJ:AC:=
 (Q (Q (D [Pm 18 9,Pm 19 1,P (ar 20 .gtr 18 19),Pm 21 20,P (g 22 21 (.mv (t 3))),P (g 23 21 (.mv (t 0))),P (g 24 21 (.mv (t 9))),P (g 25 21 (.ias 1 (t 23) (t 24))),W (g 26 21
 (.ld none (t 25))),P (g 27 21 (.mv (t 0))),P (g 28 21 (.mv (t 9))),P (g 29 21 (.ar .sub (t 28) (i 1))),P (g 30 21 (.ias 1 (t 27) (t 29))),W (g 31 21 (.ld none (t 30))),E
 (⟨(some 32),(some (21,true)),(.call (.t 22) [(.t 26),(.t 31)])⟩),P (g 33 21 (.ar .lss (t 32) (i 0))),P (pf 34 21 33)]) (C 34 X (.exit 2))) (Q (.block 3 (D [Pm 37 0,Pm 38 9,
 Pm 39 0,Pm 40 9,P (ac 41 .sub 40 (i 1)),Pm 42 0,Pm 43 9,P (ac 44 .sub 43 (i 1)),P (ia 45 1 42 44),Wl 46 45,Pm 47 0,Pm 48 9,P (ia 49 1 47 48),Wl 50 49,P (ia 51 1 37 38),
 E (n (.st 1 (t 51) (t 46))),P (ia 52 1 39 41),E (n (.st 1 (t 52) (t 50)))])) (O [m 35 9,ac 36 .sub 35 (i 1),m 9 36])))
def fK:AC:=
 (Q (Q (O [m 12 8,m 13 2,bl 14 12 13]) (C 14 X (.exit 0))) (Q (.block 1 (Q (O [m 17 8,m 9 17]) (.block 2 (.loop ⟨none,[],false⟩ fJ))))
 (ic 15 8 16)))
def gg:AC:=
 (Q (O [m 10 1,ad 11 10,m 8 11]) (.block 0 (.loop ⟨none,[],false⟩ fK)))
def gh:AFn:=⟨gg,53,[],.keep,[],none⟩
def il:AC:=
 (Q (Q (O [m 31 10,m 32 11,bl 33 31 32]) (C 33 X (.exit 0))) (.block 1 (Q (O [m 34 10,m 35 11,ar 36 .add 34 35,o 37 (.cvi .u64 (t 36)),o 38 (.sh .shr (t 37) (.c (.int .u64
 1))),o 39 (.cvi .i64 (t 38)),m 12 39]) (Q (D [Pm 40 4,Pm 41 0,Pm 42 12,P (ia 43 1 41 42),Wl 44 43,Pm 45 0,Pm 46 1,P (ia 47 1 45 46),Wl 48 47,E (k 49 (t 40) [(t 44),(t
 48)]),P (ac 50 .lss 49 (i 0))]) (C 50 (O [m 51 12,ad 52 51,m 10 52]) (O [m 53 12,m 11 53]))))))
def im:AC:=
 (Q (Q (O [m 55 13,m 56 10,ac 57 .sub 56 (i 1),bl 58 55 57]) (C 58 X (.exit 2))) (Q (.block 3 (D [Pm 61 0,Pm 62 13,Pm 63 0,Pm 64 13,P (ad 65 64),Pm 66 0,Pm 67 13,P (ad 68
 67),P (ia 69 1 66 68),Wl 70 69,Pm 71 0,Pm 72 13,P (ia 73 1 71 72),Wl 74 73,P (ia 75 1 61 62),E (n (.st 1 (t 75) (t 70))),P (ia 76 1 63 65),E (n (.st 1 (t 76) (t 74)))]))
 (ic 59 13 60)))
def iq:AC:=
 (Q (Q (O [m 83 14,m 84 15,bl 85 83 84]) (C 85 X (.exit 4))) (.block 5 (Q (O [m 86 14,m 87 15,ar 88 .add 86 87,o 89 (.cvi .u64 (t 88)),o 90 (.sh .shr (t 89) (.c (.int .u64
 1))),o 91 (.cvi .i64 (t 90)),m 16 91]) (Q (D [Pm 92 4,Pm 93 0,Pm 94 2,P (ia 95 1 93 94),Wl 96 95,Pm 97 0,Pm 98 16,P (ia 99 1 97 98),Wl 100 99,E (k 101 (t 92) [(t 96),(t
 100)]),P (ac 102 .lss 101 (i 0)),P (no 103 102)]) (C 103 (O [m 104 16,ad 105 104,m 14 105]) (O [m 106 16,m 15 106]))))))
def ir:AC:=
 (Q (Q (O [m 108 17,m 109 14,ar 110 .gtr 108 109]) (C 110 X (.exit 6))) (Q (.block 7 (D [Pm 113 0,Pm 114 17,Pm 115 0,Pm 116 17,P (ac 117 .sub 116 (i 1)),Pm 118 0,Pm 119 17,P
 (ac 120 .sub 119 (i 1)),P (ia 121 1 118 120),Wl 122 121,Pm 123 0,Pm 124 17,P (ia 125 1 123 124),Wl 126 125,P (ia 127 1 113 114),E (n (.st 1 (t 127) (t 122))),P (ia 128 1
 115 117),E (n (.st 1 (t 128) (t 126)))])) (O [m 111 17,ac 112 .sub 111 (i 1),m 17 112])))
def iu:AC:=
 (Q (Q (O [m 149 20,m 150 21,bl 151 149 150]) (C 151 X (.exit 8))) (.block 9 (Q (O [m 152 20,m 153 21,ar 154 .add 152 153,o 155 (.cvi .u64 (t 154)),o 156 (.sh .shr (t 155) (.c
 (.int .u64 1))),o 157 (.cvi .i64 (t 156)),m 23 157]) (Q (D [Pm 158 4,Pm 159 0,Pm 160 22,Pm 161 23,P (ar 162 .sub 160 161),P (ia 163 1 159 162),Wl 164 163,Pm 165 0,Pm 166
 23,P (ia 167 1 165 166),Wl 168 167,E (k 169 (t 158) [(t 164),(t 168)]),P (ac 170 .lss 169 (i 0)),P (no 171 170)]) (C 171 (O [m 172 23,ad 173 172,m 20 173]) (O [m 174 23,m
 21 174]))))))
def i9:AC:=
 (Q (Q (O [m 25 2,m 26 1,ar 27 .sub 25 26,ac 28 .eql 27 (i 1)]) (C 28 (Q (O [m 29 2,m 10 29]) (Q (O [m 30 3,m 11 30]) (Q (.block 0 (.loop ⟨none,[],false⟩
 il)) (Q (Q (O [m 54 1,m 13 54]) (.block 2 (.loop ⟨none,[],false⟩ im))) R)))) X)) (Q (Q (O [m 77 3,m
 78 2,ar 79 .sub 77 78,ac 80 .eql 79 (i 1)]) (C 80 (Q (O [m 81 1,m 14 81]) (Q (O [m 82 2,m 15 82]) (Q (.block 4 (.loop ⟨none,[],false⟩
 iq)) (Q (Q (O [m 107 2,m 17 107]) (.block 6 (.loop ⟨none,[],false⟩ ir))) R)))) X)) (Q (O [m 129 1,m
 130 3,ar 131 .add 129 130,o 132 (.cvi .u64 (t 131)),o 133 (.sh .shr (t 132) (.c (.int .u64 1))),o 134 (.cvi .i64 (t 133)),m 18 134]) (Q (O [m 135 18,m 136 2,ar 137 .add 135
 136,m 19 137]) (Q (O [mc 20 (i 0),mc 21 (i 0)]) (Q (Q (O [m 138 2,m 139 18,ar 140 .gtr 138 139]) (C 140 (Q (O [m 141 19,m 142 3,ar 143 .sub 141 142,m 20 143]) (O [m 144 18,m
 21 144])) (Q (O [m 145 1,m 20 145]) (O [m 146 2,m 21 146])))) (Q (O [m 147 19,ac 148 .sub 147 (i 1),m 22 148]) (Q (.block 8 (.loop ⟨none,[],false⟩
 iu)) (Q (O [m 175 19,m 176 20,ar 177 .sub 175 176,m 24 177]) (Q (Q (O [m 178 20,m 179 2,bl 180 178 179,m 181 180,g 182 181 (.mv (t 2)),
 g 183 181 (.mv (t 24)),g 184 181 (.ar .lss (t 182) (t 183)),pf 185 181 184]) (C 185 (O [m 186 0,m 187 20,m 188 2,m 189 24,m 190 4,k 191 (f
 jB) [(t 186),(t 187),(t 188),(t 189),(t 190)]]) X)) (Q (Q (O [m 192 1,m 193 20,bl 194 192 193,m 195 194,g 196 195 (.mv (t 20)),g 197 195
 (.mv (t 18)),g 198 195 (.ar .lss (t 196) (t 197)),pf 199 195 198]) (C 199 (O [m 200 0,m 201 1,m 202 20,m 203 18,m 204 4,k 205 (f b3) [(t
 200),(t 201),(t 202),(t 203),(t 204)]]) X)) (Q (O [m 206 18,m 207 24,bl 208 206 207,m 209 208,g 210 209 (.mv (t 24)),g 211 209 (.mv (t 3)),g 212 209 (.ar .lss (t 210) (t
 211)),pf 213 209 212]) (C 213 (O [m 214 0,m 215 18,m 216 24,m 217 3,m 218 4,k 219 (f b3) [(t 214),(t 215),(t 216),(t 217),(t 218)]])
 X)))))))))))))
def ja:AFn:=⟨i9,220,[],.keep,[],none⟩
def kG:AC:=
 (Q (O [bl 9 8 7]) (Q (C 9 X (.exit 0)) (Q (.block 1 (Q (O [m 10 8,m 5 10]) (Q (O [m 11 1,m 12 0,m 13 5,ia 14 1 12 13,ld 15 14,ar 16 .eql 11 15]) (C 16 (Q (O [m 17 5,m 4 17])
 R) X)))) (O [ad 18 8,m 8 18]))))
def lB:AC:=
 (Q (O [mc 4 (i 0)]) (Q (Q (O [m 6 0,ls 7 6,mc 8 (i 0)]) (.block 0 (.loop ⟨none,[],false⟩ kG))) (rt 4 (i (-1)))))
def lC:AFn:=⟨lB,19,[.t 4],.keep,[],none⟩
def jP:AFn:=fp.k
def pj:AC:=
 (Q (O [o 11 (.nx (t 10)),ex 12 11 0]) (Q (C 12 X (.exit 0)) (.block 1 (Q (O [ex 13 11 1,ex 14 11 2,m 7 13,m 8 14]) (Q (O [m 15 1,m 16 8,k 17 (t 15) [(t 16)],m 18 2,o 19 (.eq
 false .bool (t 17) (t 18))]) (C 19 (Q (O [m 20 7,m 6 20]) R) X))))))
def qY:AC:=
 (Q (O [mc 6 (i 0)]) (Q (Q (O [m 9 0,o 10 (.rg (t 9))]) (.block 0 (.loop ⟨none,[],false⟩ pj))) (rt 6 (i (-1)))))
def qZ:AFn:=⟨qY,21,[.t 6],.keep,[],none⟩
def jb:AC:=
 (Q (Q (O [m 18 10,m 19 11,ar 20 .neq 18 19]) (C 20 X (.exit 0))) (.block 1 (Q (O [m 21 10,m 22 11,ar 23 .gtr 21 22]) (C 23 (Q (O [m 24 0,m 25 2,m 26 10,ar 27 .sub 25 26,m 28
 2,m 29 11,m 30 4,k 31 (f cR) [(t 24),(t 27),(t 28),(t 29),(t 30)]]) (O [m 32 10,m 33 11,ar 34 .sub 32 33,m 10 34])) (Q (O [m 35 0,m 36
 2,m 37 10,ar 38 .sub 36 37,m 39 2,m 40 11,ar 41 .add 39 40,m 42 10,ar 43 .sub 41 42,m 44 10,m 45 4,k 46 (f cR) [(t 35),(t 38),(t 43),
 (t 44),(t 45)]]) (O [m 47 11,m 48 10,ar 49 .sub 47 48,m 11 49]))))))
def ju:AC:=
 (Q (O [m 12 2,m 13 1,ar 14 .sub 12 13,m 10 14]) (Q (O [m 15 3,m 16 2,ar 17 .sub 15 16,m 11 17]) (Q (.block 0 (.loop ⟨none,[],false⟩ jb))
 (O [m 50 0,m 51 2,m 52 10,ar 53 .sub 51 52,m 54 2,m 55 10,m 56 4,k 57 (f cR) [(t 50),(t 53),(t 54),(t 55),(t 56)]]))))
def jv:AFn:=⟨ju,58,[],.keep,[],none⟩
def gC:AC:=
 (Q (Q (O [m 11 10,m 12 3,bl 13 11 12]) (C 13 X (.exit 0))) (Q (.block 1 (D [Pm 16 0,Pm 17 1,Pm 18 10,P (ar 19 .add 17 18),Pm 20 0,Pm 21 2,Pm 22 10,P (ar 23 .add 21 22),Pm
 24 0,Pm 25 2,Pm 26 10,P (ar 27 .add 25 26),P (ia 28 1 24 27),Wl 29 28,Pm 30 0,Pm 31 1,Pm 32 10,P (ar 33 .add 31 32),P (ia 34 1 30 33),Wl 35 34,P (ia 36 1 16 19),E (n
 (.st 1 (t 36) (t 29))),P (ia 37 1 20 23),E (n (.st 1 (t 37) (t 35)))])) (ic 14 10 15)))
def iC:AC:=
 (Q (O [mc 10 (i 0)]) (.block 0 (.loop ⟨none,[],false⟩ gC)))
def iD:AFn:=⟨iC,38,[],.keep,[],none⟩
def Ho(f:FuncId):Option (Nat×AFn):=none
end
section
open Go.Proofs
def G0:Nat→Option (List AV):=pA 0 1
def Hp:List (Nat×AFn):=[(7,o9),(8,Bg),(10,mo),(12,rI),(23,pM),(24,pO),(25,pQ),(26,x7),(27,Ct),(28,y9),(29,vG),(30,pS)]
theorem KR:ll (dE Tryz.prog G0) Hp:=by repeat' first | (unfold dE;kernel_rfl) | exact trivial | refine ⟨?_, ?_⟩
def Hq:List (Nat×AFn):=[(31,x9),(32,m6),(33,nN),(34,ya),(35,rK),(36,lP),(37,yc),(39,vI),(42,yd),(43,pT),(44,nO),(45,m8)]
theorem KS:ll (dE Tryz.prog G0) Hq:=by repeat' first | (unfold dE;kernel_rfl) | exact trivial | refine ⟨?_, ?_⟩
def Hr:List (Nat×AFn):=[(56,uz),(57,yf),(58,zb),(59,Cv),(60,zg),(61,tH),(62,tJ),(63,sx),(64,Bi),(65,uD),(66,zi),(67,Cx)]
theorem KT:ll (dE Tryz.prog G0) Hr:=by repeat' first | (unfold dE;kernel_rfl) | exact trivial | refine ⟨?_, ?_⟩
def Hs:List (Nat×AFn):=[(68,zl),(69,yi),(70,jO),(71,uF),(72,lQ),(73,rM),(74,qM),(75,qO),(86,zn),(87,mr),(88,tL),(89,rO)]
theorem KU:ll (dE Tryz.prog G0) Hs:=by repeat' first | (unfold dE;kernel_rfl) | exact trivial | refine ⟨?_, ?_⟩
def Ht:List (Nat×AFn):=[(90,sB),(91,fZ),(92,zp),(93,vS),(94,rQ),(95,sD),(96,sG),(97,yk),(98,Cz),(99,kT),(100,kF),(101,qQ)]
theorem KV:ll (dE Tryz.prog G0) Ht:=by repeat' first | (unfold dE;kernel_rfl) | exact trivial | refine ⟨?_, ?_⟩
def Hu:List (Nat×AFn):=[(102,gv),(103,ff),(104,zr),(105,uH),(106,sI),(107,uJ),(108,ym),(110,lA),(112,qS),(113,lS),(114,oh),(115,lU)]
theorem KW:ll (dE Tryz.prog G0) Hu:=by repeat' first | (unfold dE;kernel_rfl) | exact trivial | refine ⟨?_, ?_⟩
def Hv:List (Nat×AFn):=[(116,jX),(117,jZ),(121,vU),(122,vW),(123,vY),(124,v8),(125,wc),(126,wg),(127,iB),(128,zu),(129,yo),(130,rS)]
theorem KX:ll (dE Tryz.prog G0) Hv:=by repeat' first | (unfold dE;kernel_rfl) | exact trivial | refine ⟨?_, ?_⟩
def Hw:List (Nat×AFn):=[(131,gA),(132,zx),(133,oo),(134,uM),(135,jt),(136,kB),(137,j0),(139,mw),(140,gB),(141,qV),(142,nd),(146,Bk)]
theorem KY:ll (dE Tryz.prog G0) Hw:=by repeat' first | (unfold dE;kernel_rfl) | exact trivial | refine ⟨?_, ?_⟩
def Hx:List (Nat×AFn):=[(147,qX),(148,gh),(149,ja),(150,lC),(152,jP),(159,qZ),(160,jv),(167,iD)]
theorem KZ:ll (dE Tryz.prog G0) Hx:=by repeat' first | (unfold dE;kernel_rfl) | exact trivial | refine ⟨?_, ?_⟩
def Hy:List (Nat×List (Nat×AFn)):=[(30,Hp),(45,Hq),(67,Hr),(89,Hs),(101,Ht),(115,Hu),(130,Hv),(146,Hw),(167,Hx)]
def LV(f:FuncId):Option AFn:=Ci Hy f
theorem Jm:∀ f af,LV f=some af→dE Tryz.prog G0 f af:=fun f af h=>xG (show A2 _ Hy from ⟨KR,KS,KT,KU,KV,KW,KX,KY,KZ,trivial⟩) h
theorem Hz:∀ f d af,Ho f=some (d,af)→Jc Tryz.prog G0 f (d,af):=fun f d af h=>by
 unfold Ho at h;revert h;exact (fun h=>by cases h)
end
section
open Go.Shelf Go.Proofs
attribute [local go_sem] Oper.semAt_some
theorem CA{P:Program}{w:World}{ib:Nat}{s:ByteArray}{pos:Nat}(ty:TypeId)(h:w.heap[ib]?=some (.stringIter s pos))(hp:pos<s.size) :
  (Instr.next (.pointer (some ⟨ib,0,none⟩)) true ty).run P w = .ok (.tuple #[.bool true,.int .i64 pos,.int .i32 (Utf8.decode s pos).1]) (w.putObj ib (.stringIter s (pos+(Utf8.decode s pos).2))):=by
 have hg:(getObj ib).run P w = .ok (.stringIter s pos) w:=by simp [getObj,Sem.run,h]
 have hlt:ib<w.heap.size:=(Array.getElem?_eq_some_iff.1 h).1
 have hso:∀ p,(setObj ib (.stringIter s p)).run P w = .ok () (w.putObj ib (.stringIter s p)):=fun p=>by
  unfold setObj;simp only [Sem.run,World.putObj,h]
 simp only [Instr.next,Sem.run_bind,hg,Result.andThen_ok];rw [if_pos hp];simp only [Sem.run_bind,hso,Result.andThen_ok,Sem.run_pure];rfl
theorem CB{P:Program}{w:World}{ib:Nat}{s:ByteArray}{pos:Nat}(ty:TypeId)(h:w.heap[ib]?=some (.stringIter s pos))(hp:¬ pos<s.size) :
  (Instr.next (.pointer (some ⟨ib,0,none⟩)) true ty).run P w = .ok (.tuple #[.bool false]) w:=by
 have hg:(getObj ib).run P w = .ok (.stringIter s pos) w:=by simp [getObj,Sem.run,h]
 simp only [Instr.next,Sem.run_bind,hg,Result.andThen_ok];rw [if_neg hp];rfl
def HA(w:World)(b:Nat):Nat:=
 match w.heap[b]? with
 |some (.stringIter s p)=>s.size-p
 |_=>0
theorem CC{w:World}{b:Nat}{s:ByteArray}{p:Nat}(h:w.heap[b]?=some (.stringIter s p)):HA w b=s.size-p:=by
 unfold HA;rw [h]
abbrev EC(n:Int):Array Value := #[.agg #[.int .i32 n,.bool false]]
def sK(p:Int×ByteArray×Bool):List (Array Value):=if p.1=5 then [#[.agg #[.int .i32 0,.bool true]]] else if p.1=1 then (gI p.2.1 p.2.1.size 0).map EC else []
def fj:List (Int×ByteArray×Bool)→List (Array Value)
 |[]=>[]
 |p::l=>sK p++fj l
theorem z7{α:Type}{xs r:List α}{x:α}{i:Nat}(h:xs.drop i=x::r):xs[i]?=some x∧xs.drop (i+1)=r:=by
 constructor
 ·have:=congrArg List.head? h
  simpa [List.head?_drop] using this
 ·rw [← List.drop_drop,h];rfl
theorem DH(s:ByteArray)(p:Nat)(_:p<s.size):1≤(Utf8.decode s p).2:=by
 simp only [Utf8.decode]
 repeat' split
 all_goals simp
theorem Jn(l cb:Nat)(W:World)(B:Nat)(J:Nat→World→Prop)(Jx KO:World→Prop)(a:Option Addr)(cap:Nat)(ps:List (Int×ByteArray×Bool))(hmx:ps.length≤9223372036854775807)
  (hx:W.cell? ⟨cb,0,none⟩=some (.slice a ps.length cap))
  (hcell:∀ W' k p,KO W'→ps[k]?=some p→∃ b o,a=some ⟨b,o,none⟩∧W'.cell? ⟨b,o+k*3,none⟩=some (.int .u8 p.1)∧W'.cell? ⟨b,o+k*3+1,none⟩=some (.string p.2.1)∧W'.cell? ⟨b,o+k*3+2,none⟩=some (.bool p.2.2))
  (hKO:Stb B KO) (hJ:∀ i,Stb B (J i)) (hsz:∀ i W',J i W'→B≤W'.heap.size)
  (hY:∀ i x W1,(fj ps)[i]?=some x→J i W1→YieldAt Fence.wide 0 Tryz.prog l x W1 fun e W'=>(e = .returned (.bool true)∧J (i+1) W'∧zV B W1 W'∧KO W')∨(e = .returned (.bool false)∧Jx W'))
  (h0:J 0 W) (hk0:KO W) :
  CallsIn Fence.wide 0 Tryz.prog 93 #[.func (.yield l) #[] #[],.pointer (some ⟨cb,0,none⟩)] W fun e W'=>(∃ v,e = .returned v)∧(J (fj ps).length W'∨Jx W'):=by
 refine callsIn_of_wp Tryz.func93 rfl trivial ?_ rfl;simp only [Tryz.ntmps93,List.size_toArray,List.length_cons,List.length_nil,Nat.reduceAdd,Nat.reduceSub,Array.replicate_succ,Array.replicate_zero,List.push_toArray,List.append_toArray,List.nil_append,List.cons_append]
 gi_wp2
 refine nQ (fun _ _ _ _=>False) 0 ?_ (fun _ _ _ _ h=>h.elim);refine wpIn_seq (wpIn_label ?_)
 gi_wp2
 gi_loopw [9] (fun p wr => ∃ k i:Nat,p = .int .i64 k∧k≤ps.length∧(fj ps).drop i=fj (ps.drop k)∧i+(fj (ps.drop k)).length=(fj ps).length∧J i wr∧KO wr)
  (fun p _=>ps.length-(intOf p).toNat)
 case atStart=>
  exact ⟨0,0,rfl,Nat.zero_le _,rfl,by simp,h0,hk0⟩
 case round=>
  obtain ⟨k,i,rfl,hk,hd,hi,hJk,hKk⟩:=hrel
  by_cases hlt:k<ps.length
  ·obtain ⟨⟨kd,st,cr⟩,hp⟩:∃ p,ps[k]?=some p:=⟨_,List.getElem?_eq_getElem hlt⟩
   obtain ⟨b,o,rfl,c0,c1,c2⟩:=hcell wr k _ hKk hp
   have hdk:ps.drop k=(kd,st,cr)::ps.drop (k+1):=by
    rw [List.drop_eq_getElem_cons hlt];rw [List.getElem?_eq_getElem hlt] at hp;rw [Option.some.inj hp]
   rw [hdk,fj] at hd hi;simp only at c0 c1 c2
   by_cases h5:kd=5
   ·subst h5
    have e5:sK (5,st,cr)=[#[.agg #[.int .i32 0,.bool true]]]:=rfl;rw [e5] at hd hi;obtain ⟨hxi,hdi⟩:=z7 (by simpa using hd);obtain ⟨fn,tmps,assign,body,hy,hR⟩:=hY i _ (wr.alloc (.cells #[.int .u8 5,.string st,.bool cr] 45)) hxi ((hJ _).alloc _ hJk)
    gi_wp2
    refine ⟨rfl,hR.mono ?_⟩;rintro e W' (⟨rfl,hJ2,_,hK2⟩ | ⟨rfl,hJx2⟩)
    ·gi_wp2
     exact ⟨⟨k+1,i+1,by simp,by omega,hdi,by simp at hi ⊢;omega,hJ2,hK2⟩,by simp [intOf];omega⟩
    ·gi_wp2
     go_end0
     exact ⟨⟨_,rfl⟩,.inr hJx2⟩
   ·by_cases h1:kd=1
    ·subst h1
     have e1:sK (1,st,cr)=(gI st st.size 0).map EC:=rfl;rw [e1] at hd hi
     gi_wp2
     have hBw:=hsz _ _ hJk;obtain ⟨ib,hib⟩:∃ ib,ib=wr.heap.size+1:=⟨_,rfl⟩
     have hst:((wr.alloc (.cells #[.int .u8 1,.string st,.bool cr] 45)).iter st 0).heap[ib]?=some (.stringIter st 0):=by
      have:=World.iter_heap (wr.alloc (.cells #[.int .u8 1,.string st,.bool cr] 45)) st 0;rw [hib];simpa using this
     rw [← hib];have hBi:B≤ib:=by omega
     clear hib
     gi_loopw [26] (fun _ w2 => ∃ (pos fuel j:Nat),w2.heap[ib]?=some (.stringIter st pos)∧st.size-pos≤fuel∧(fj ps).drop j=(gI st fuel pos).map EC++fj (ps.drop (k+1)) ∧
       j+((gI st fuel pos).map EC++fj (ps.drop (k+1))).length=(fj ps).length∧J j w2∧KO w2)
      (fun _ w2=>HA w2 ib)
     case atStart=>
      exact ⟨0,st.size,i,hst,by omega,hd,hi,(hJ _).alloc _ ((hJ _).alloc _ hJk),hKO.alloc _ (hKO.alloc _ hKk)⟩
     case round=>
      obtain ⟨pos,fuel,j,hit,hfu,hdj,hij,hJj,hKj⟩:=hrel
      by_cases hpl:pos<st.size
      ·have hnx:=fun ty=>CA (P:=Tryz.prog) ty hit hpl
       obtain ⟨fuel,rfl⟩:∃ f,fuel=f+1:=⟨fuel-1,by omega⟩
       have hdp:=DH st pos hpl;rw [show gI st (fuel+1) pos=Int.ofNat (Utf8.decode st pos).1::gI st fuel (pos+(Utf8.decode st pos).2) by rw [gI,if_pos hpl],List.map_cons,List.cons_append] at hdj hij;obtain ⟨hxj,hdj2⟩:=z7 hdj;obtain ⟨fn,tmps,assign,body,hy,hR⟩:=hY j #[.agg #[.int .i32 ((Utf8.decode st pos).1:Nat),.bool false]] (wr.putObj ib (.stringIter st (pos+(Utf8.decode st pos).2))) hxj ((hJ j).putObj _ hJj hBi hit rfl)
       have hlt2:ib<wr.heap.size:=(Array.getElem?_eq_some_iff.1 hit).1;have hsame:=World.putObj_heap_same (w:=wr) (o:=Obj.stringIter st (pos+(Utf8.decode st pos).2)) hlt2
       gi_wp2
       refine ⟨rfl,hR.mono ?_⟩;rintro e W' (⟨rfl,hJ2,hI2,hK2⟩ | ⟨rfl,hJx2⟩)
       ·have hW:=hI2 ib _ _ hBi hsame
        gi_wp2
        exact ⟨⟨_,fuel,j+1,hW,by omega,hdj2,by simp only [List.length_cons] at hij;omega,hJ2,hK2⟩,by rw [CC hW,CC hit];omega⟩
       ·gi_wp2
        go_end0
        exact ⟨⟨_,rfl⟩,.inr hJx2⟩
      ·have hnx:=fun ty=>CB (P:=Tryz.prog) ty hit hpl
       have e0:gI st fuel pos=[]:=by
        cases fuel with
        |zero=>rfl
        |succ f=>rw [gI,if_neg hpl]
       rw [e0] at hdj hij
       gi_wp2
       exact ⟨⟨k+1,j,by simp,by omega,hdj,by simp at hij ⊢;omega,hJj,hKj⟩,by simp [intOf];omega⟩
    ·have e0:sK (kd,st,cr)=[]:=by unfold sK;rw [if_neg h5,if_neg h1]
     rw [e0] at hd hi
     gi_wp2
     exact ⟨⟨k+1,i,by simp,by omega,hd,by simp at hi ⊢;omega,(hJ _).alloc _ hJk,hKO.alloc _ hKk⟩,by simp [intOf];omega⟩
  ·have ek:k=ps.length:=by omega
   subst ek
   gi_wp2
   go_end0
   have:i=(fj ps).length:=by simpa [fj] using hi
   exact ⟨⟨_,rfl⟩,.inl (by rw [← this];exact hJk)⟩
def pc1:List AV→Int×ByteArray×Bool
 |[.int .u8 k,.str s,.bool c]=>(k,⟨s.toArray⟩,c)
 |_=>(0,⟨#[]⟩,false)
def pcs(rows:List (List AV)):List (Int×ByteArray×Bool):=rows.map pc1
theorem ED(rows:List (List AV)):(pcs rows).length=rows.length:=List.length_map ..
theorem EE:∀ {rows:List (List AV)}{xs:List (List AV)},tw rows=some xs→fj (pcs rows)=xs.map (fun x=>(x.map pz).toArray)∧(∀ x∈xs,x.length=1∧∀ v∈x,ui v=true) ∧
  ∀ (i:Nat) (p:Int×ByteArray×Bool),(pcs rows)[i]?=some p→∃ s:List UInt8,rows[i]?=some [.int .u8 p.1,.str s,.bool p.2.2]∧p.2.1=⟨s.toArray⟩
 |[],xs,h=>by
  cases h;exact ⟨rfl,fun x hx=>by simp at hx,fun i p h=>by simp [pcs] at h⟩
 |r::rows,xs,h=>by
  unfold tw at h;split at h
  ·rename_i heq;cases heq
  ·rename_i k s c l heq
   cases heq;split at h
   ·rename_i r' hr
    obtain ⟨h1,h2,h3⟩:=EE hr
    have hget:∀ (i:Nat) (p:Int×ByteArray×Bool),(pcs ([.int .u8 k,.str s,.bool c]::rows))[i]?=some p→∃ s':List UInt8,([AV.int .u8 k,.str s,.bool c]::rows)[i]?=some [.int .u8 p.1,.str s',.bool p.2.2]∧p.2.1=⟨s'.toArray⟩:=fun i p hp=>by
     cases i with
     |zero=>simp [pcs,pc1] at hp;subst hp;exact ⟨s,rfl,rfl⟩
     |succ i=>exact h3 i p (by simpa [pcs] using hp)
    have hu:fj (pcs ([.int .u8 k,.str s,.bool c]::rows))=sK (k,⟨s.toArray⟩,c)++fj (pcs rows):=rfl
    by_cases h5:k=5
    ·rw [if_pos h5] at h
     cases h;refine ⟨?_, ?_,hget⟩
     ·rw [hu,h1,h5];rfl
     ·intro x hx
      rcases List.mem_cons.1 hx with rfl | hx
      ·exact ⟨rfl,fun v hv=>by simp at hv;subst hv;rfl⟩
      ·exact h2 x hx
    ·rw [if_neg h5] at h
     by_cases h1':k=1
     ·rw [if_pos h1'] at h
      cases h;refine ⟨?_, ?_,hget⟩
      ·rw [hu,h1,h1',List.map_append,List.map_map]
       congr 1
      ·intro x hx
       rcases List.mem_append.1 hx with hx | hx
       ·obtain ⟨n,_,rfl⟩:=List.mem_map.1 hx
        exact ⟨rfl,fun v hv=>by simp at hv;subst hv;rfl⟩
       ·exact h2 x hx
     ·rw [if_neg h1'] at h
      cases h;refine ⟨?_,h2,hget⟩;rw [hu,h1];unfold sK;rw [if_neg h5,if_neg h1'];rfl
   ·cases h
  ·cases h
def z8(H:List AObj):List AObj:=H.map fun x=>match x with
 |.siter _ _=>.dead
 |x=>x
theorem Aa{H:List AObj}{i:Nat}{x:AObj}(h:(z8 H)[i]?=some x):(x = .dead∨H[i]?=some x)∧∀ s p,x≠.siter s p:=by
 unfold z8 at h;rw [List.getElem?_map] at h;cases hi:H[i]? with
 |none=>rw [hi] at h;cases h
 |some y=>
  rw [hi] at h;simp only [Option.map_some,Option.some.injEq] at h;cases y<;>subst h<;>simp
theorem FJ{H:List AObj}{t fr:Nat}{T:TypeId}(h:H[t]?=some (.tok fr T)):(z8 H)[t]?=some (.tok fr T):=by
 unfold z8;rw [List.getElem?_map,h];rfl
theorem FK{G:Nat→Option (List AV)}{cap:List AV}{H:List AObj}{xs:List (List AV)}{L:List Nat}(h:wC cap H=some (xs,L)) :
  (∀ x∈xs,x.length=1∧∀ v∈x,ui v=true)∧(∀ args w,(callFunc 93 args).run Tryz.prog w = .ok (.enter 93 args) w) ∧
  ∀ K w lb,K.glob=G→Inv K H w→Vs K cap lb→Kz Tryz.prog 93 lb (xs.map fun x=>(x.map pz).toArray) L K H:=by
 unfold wC at h;split at h
 ·rename_i id
  split at h
  ·rename_i tg rows cs T ho
   split at h
   ·rename_i r hr
    cases hle:Nat.ble rows.length 9223372036854775807 with
    |false=>rw [hle] at h;cases h
    |true=>
     rw [hle] at h;cases h;obtain ⟨e1,e2,e3⟩:=EE hr;refine ⟨e2,fun args w=>eW Tryz.func93 (by kernel_rfl) (by kernel_rfl) args w, ?_⟩;intro K w lb _ hi hv;obtain ⟨x0,rfl,hx0⟩:=s3 hv;cases hx0 with
     |ptr _ _ cb hcb=>
      intro l W J Jx hiW hJ hJx hsz hY h0;obtain ⟨b,vs,T',hb,hbase,hheap,hlen,hcs,_⟩:=hiW.obj id _ ho;rw [hcb] at hb;cases hb;have hv0:=hcs 0 _ rfl
      have hB:∀ b s,K.shape b=some s→b<W.heap.size:=fun b s hs=>by
       have:=hiW.shape b s hs;cases s with
       |rows n=>obtain ⟨vs,T,f,h1,_⟩:=this;exact (Array.getElem?_eq_some_iff.1 h1).1
       |mapv es=>obtain ⟨c,h1⟩:=this;exact (Array.getElem?_eq_some_iff.1 h1).1
       |fix o=>exact (Array.getElem?_eq_some_iff.1 this.1).1
      have hbb:∀ b,W.heap.size≤b→K.base b:=hiW.base
      let KO:World→Prop:=fun W' => ∃ K' H',K.le K'∧Inv K' H' W'∧Low W.heap.size K' H'
      have toKO:∀ W',Kg K H [] W'→KO W':=fun W' ⟨K',H',hk,hi',_⟩=>by
       have hb':∀ b,W.heap.size≤b→K'.base b:=fun b h=>by rw [hk.base];exact hbb b h
       refine ⟨K'.dim W.heap.size,z8 H',GG hk hB hb', ?_, ?_⟩
       ·exact (hi'.dim _).unsee (by simp [z8]) (fun i x hx=>(Aa hx).1) fun t fr T ht=>FJ ht
       ·exact ⟨fun id b s p hx _=>absurd rfl ((Aa hx).2 s p),fun b o ho=>(AT ho).1⟩
      have hsl:∃ a cap',vs.getD 0 undef = .slice a (pcs rows).length cap'∧∀ W' k p,KO W'→(pcs rows)[k]?=some p→∃ b o,a=some ⟨b,o,none⟩∧W'.cell? ⟨b,o+k*3,none⟩=some (.int .u8 p.1)∧W'.cell? ⟨b,o+k*3+1,none⟩=some (.string p.2.1)∧W'.cell? ⟨b,o+k*3+2,none⟩=some (.bool p.2.2):=by
       generalize vs.getD 0 undef=x at hv0;cases hv0 with
       |slice0 _ _ a _=>exact ⟨a,0,rfl,fun W' k p _ hp=>by simp [pcs] at hp⟩
       |sliceAny _ _ a c _=>exact ⟨a,c,rfl,fun W' k p _ hp=>by simp [pcs] at hp⟩
       |slice _ _ _ b o c us hl him hvv hc ht=>
        refine ⟨_,c,by rw [ED],fun W' k p ⟨K',H',hk,hi',_⟩ hp=>⟨b,o,rfl, ?_⟩⟩;obtain ⟨s,hrow,hs⟩:=e3 k p hp
        have key:∀ j av,[AV.int .u8 p.1,.str s,.bool p.2.2][j]?=some av→W'.cell? ⟨b,o+k*3+j,none⟩=some (us k j)∧V K av (us k j):=fun j av hj=>
         ⟨hi'.imm _ _ _ (hk.imm _ _ _ (him k j _ av hrow hj)),hvv k j _ av hrow hj⟩
        obtain ⟨a0,b0⟩:=key 0 _ rfl;obtain ⟨a1,b1⟩:=key 1 _ rfl;obtain ⟨a2,b2⟩:=key 2 _ rfl;generalize us k 0=y0 at a0 b0;generalize us k 1=y1 at a1 b1;generalize us k 2=y2 at a2 b2;cases b0;cases b1;cases b2;exact ⟨a0,by rw [hs];exact a1,a2⟩
      obtain ⟨a,cap',hx,hcell⟩:=hsl
      have hcell0:W.cell? ⟨cb,0,none⟩=some (.slice a (pcs rows).length cap'):=by
       rw [← hx];simp only [World.cell?,hheap]
       have:0<vs.size:=by simp at hlen;omega
       simp [Array.getD,this]
      have hY':∀ i x W1,(fj (pcs rows))[i]?=some x→J i W1→YieldAt Fence.wide 0 Tryz.prog l x W1 fun e W'=>(e = .returned (.bool true)∧J (i+1) W'∧zV W.heap.size W1 W'∧KO W')∨(e = .returned (.bool false)∧Jx W'):=fun i x W1 hx hj=>by
       rw [e1] at hx;refine (hY i x W1 hx hj).mono ?_;rintro e W' (⟨h1,h2,h3,h4⟩ | h1)
       ·exact .inl ⟨h1,h2,h3,toKO _ h4⟩
       ·exact .inr h1
      rw [← e1];refine Jn l cb W W.heap.size J Jx KO a cap' (pcs rows) (by rw [ED];exact Nat.le_of_ble_eq_true hle) hcell0 hcell ?_ hJ hsz hY' h0 (toKO W ⟨K,H,.refl K,hiW,fun id h=>by simp at h⟩);rintro W1 W2 row ⟨K',H',hk,hi',hlow⟩ hg ht;exact ⟨K',H',hk,hi'.grown hlow (fun b h=>by rw [hk.base];exact hbb b h) hg ht,hlow⟩
   ·cases h
  ·cases h
 ·cases h
end
section
open Go.Proofs
def Jo(g:FuncId)(xs:List AV)(H:List AObj):Option Out:=
 match xs with
 |[.str s,.int .u8 c]=>bif Nat.beq g b7 then some (.ret (.int .i64 (Lib.countByte s c.toNat.toUInt8:Nat)),H)
  else bif Nat.beq g bQ then some (.ret (.int .i64 (Lib.indexByte s c.toNat.toUInt8)),H) else none
 |[.fn _ _ _]=>none
 |[x]=>bif Nat.beq g dw then some (.ret x,H) else none
 |_=>none
theorem Jp:r7 Tryz.prog b7 Extern.BytealgCount.count:=.of Tryz.func215 (by kernel_rfl) (by kernel_rfl) (by kernel_rfl) (by kernel_rfl)
theorem Jq:r7 Tryz.prog bQ Extern.BytealgIndexByte.indexByte:=.of Tryz.func151 (by kernel_rfl) (by kernel_rfl) (by kernel_rfl) (by kernel_rfl)
theorem K6:r7 Tryz.prog dw Extern.AbiNoEscape.same:=.of Tryz.func111 (by kernel_rfl) (by kernel_rfl) (by kernel_rfl) (by kernel_rfl)
theorem EF{g:FuncId}{xs:List AV}{H H':List AObj}{r:kJ}(h:Jo g xs H=some (r,H')):cB Tryz.prog G0 g xs H fun r2 H2=>r2=r∧H2=H':=by
 unfold Jo at h;split at h
 ·rename_i s c
  cases h1:Nat.beq g b7 with
  |true=>rw [h1] at h;cases h;rw [Nat.eq_of_beq_eq_true h1];exact FC Jp s c H
  |false=>
   rw [h1,cond_false] at h;cases h2:Nat.beq g bQ with
   |true=>rw [h2] at h;cases h;rw [Nat.eq_of_beq_eq_true h2];exact FD Jq s c H
   |false=>rw [h2] at h;cases h
 ·cases h
 ·rename_i x _
  cases h1:Nat.beq g dw with
  |true=>rw [h1] at h;cases h;rw [Nat.eq_of_beq_eq_true h1];exact Hd K6 x H
  |false=>rw [h1] at h;cases h
 ·cases h
theorem EG:Tryz.prog.follows .mixedOrders=true:=by kernel_rfl
theorem g0:∀ (n g:Nat) (cs:List AV),G0 g=some cs→wkbL n cs=true:=Hh
def Jr:FuncId→List AV→List AObj→Option (List (List AV)×List Nat):=fun g cap H=>bif Nat.beq g 93 then wC cap H else none
theorem EH(g:FuncId)(cap:List AV)(H:List AObj)(xs:List (List AV))(L:List Nat)(h:Jr g cap H=some (xs,L)):(∀ x∈xs,x.length=1∧∀ v∈x,ui v=true)∧(∀ args w,(callFunc g args).run Tryz.prog w = .ok (.enter g args) w) ∧
  ∀ K w lb,K.glob=G0→Inv K H w→Vs K cap lb→Kz Tryz.prog g lb (xs.map fun x=>(x.map pz).toArray) L K H:=by
 unfold Jr at h;cases hb:Nat.beq g 93 with
 |true=>rw [hb] at h;rw [Nat.eq_of_beq_eq_true hb];exact FK h
 |false=>rw [hb] at h;cases h
noncomputable def E0:bc := { P:=Tryz.prog,G:=G0,fn:=LV,orc:=Jo,dfn:=Ho,seq:=Jr,sar:=fun _=>1 }
theorem EI:E0.Ok:=⟨EG,fun f af h=>Jm f af h,fun f d af h=>Hz f d af h,(fun _ _ _ _ _ h=>by cases h),fun _ _ _ _ _ h=>EF h,(fun _ _ _ h=>by cases h),EH⟩
end
section
open Go.Proofs
theorem Js:∀ f args H,E0.wo f args H=none:=fun _ _ _=>rfl
def ps0:List RPc:=[]
theorem ok0:∀ p∈ps0,p.Ok E0.P E0.G:=fun p h=>by cases h
def p1:RPc:=⟨8,[(.str [97,32,92,60,98,62,32,60,98,62,120,60,47,98,62,123,110,125])],[],(.tuple [(.slice .any 3 [[(.int .u8 1),(.str [97,32,60,98,62,32]),(.bool false)],[(.int .u8 2),(.str [98]),(.bool false)],[(.int .u8 1),(.str [120]),(.bool false)],[(.int .u8 3),(.str [98]),(.bool false)],[(.int .u8 5),(.str [110]),(.bool false)]]),(.int .u8 0)])⟩
def ps1:List RPc:=p1::ps0
theorem ok1:∀ p∈ps1,p.Ok E0.P E0.G:=qD EI g0 ok0 Js (by kernel_rfl)
def p2:RPc:=⟨26,[(.slice .full 3 [[(.str [37,98,68,114,46,37,115]),(.str []),(.bool false)],[(.str [37,112,37,115]),(.str [37,117]),(.bool true)]]),(.slice .full 3 [[(.int .u8 1),(.str [68,114,46,32,65,32,105,115,32,105,110,46,32,71,111]),(.bool false)]])],[],(.tuple [(.slice .any 1 [[(.int .i64 13)]]),(.int .u8 0)])⟩
def ps2:List RPc:=p2::ps1
theorem ok2:∀ p∈ps2,p.Ok E0.P E0.G:=qD EI g0 ok1 Js (by kernel_rfl)
def p3:RPc:=⟨29,[(.slice .full 3 [[(.int .u8 2),(.str [98]),(.bool false)],[(.int .u8 1),(.str [114,101,100]),(.bool false)],[(.int .u8 3),(.str [98]),(.bool false)],[(.int .u8 1),(.str [32,104,111,117,115,101]),(.bool false)]]),(.slice .full 1 [[(.str [99,97,115,97])],[(.str [114,111,106,97])]]),(.slice .full 2 [[(.int .i64 0),(.int .i64 1)],[(.int .i64 1),(.int .i64 0)]])],(dd 12 ([.tok 1 9]++(dd 7 ([.tok 16 108]++(dd 11 ([.tok 1 9]++(dd 43 ([.tok 1 9]++(dd 20 [.tok 6 9]))))))))),(.tuple [(.slice .any 3 [[(.int .u8 1),(.str [99,97,115,97,32]),(.bool false)],[(.int .u8 2),(.str [98]),(.bool false)],[(.int .u8 1),(.str [114,111,106,97]),(.bool false)],[(.int .u8 3),(.str [98]),(.bool false)]]),(.int .u8 0)])⟩
def ps3:List RPc:=p3::ps2
theorem ok3:∀ p∈ps3,p.Ok E0.P E0.G:=qD EI g0 ok2 Js (by kernel_rfl)
theorem FL:Eu (EP E0 ps3) 1000000 cH [] []=some (.bool true):=by kernel_rfl
theorem HB(H:List AObj):cB Tryz.prog G0 cH [] H fun r H'=>r = .ret (.bool true)∧H'=H:=Ch (Kl EI g0 ok3 Js) g0 FL rfl
end
def eP(s:Str):Nat×Nat:=Lib.decodeL s
theorem Bl(s:Str):1≤(eP s).2:=Lib.decodeL_width s
theorem Jt{s:Str}(h:s≠[]):(eP s).2≤s.length:=Lib.decodeL_le s h
theorem FM(s:Str)(i:Nat):Utf8.decode ⟨s.toArray⟩ i=eP (s.drop i):=(Lib.decodeL_drop ⟨s.toArray⟩ i).symm
theorem Mn(r:Nat):(Utf8.encode (r:Int)).data.toList=Lib.encodeRune (r:Int):=by
 have h:=Extern.FmtText.encode_eq r;unfold Lib.encodeRune;rw [← h,Extern.FmtText.nums,List.map_map]
 conv=>lhs;rw [← List.map_id (Utf8.encode (r:Int)).data.toList]
 refine List.map_congr_left fun c _ => ?_
 simp
theorem Ju{s:Str}(hne:s≠[])(hv:¬ ((eP s).1=65533∧(eP s).2=1)):(Utf8.encode ((eP s).1:Int)).data.toList=s.take (eP s).2:=by
 rw [Mn];exact Lib.encode_decode s hne hv
def wi:Nat→Str→List Nat
 |0,_=>[]
 |n+1,s=>match s with
  |[]=>[]
  |c::t=>(eP (c::t)).1::wi n ((c::t).drop (eP (c::t)).2)
theorem HC(n:Nat):wi n []=[]:=by cases n<;>rfl
theorem rB{n:Nat}{s:Str}(h:s≠[]):wi (n+1) s=(eP s).1::wi n (s.drop (eP s).2):=by
 cases s with
 |nil=>exact absurd rfl h
 |cons c t=>rfl
def lV(s:Str):List Nat:=wi s.length s
theorem vk(s:Str):∀ (n i:Nat),gI ⟨s.toArray⟩ n i=(wi n (s.drop i)).map Int.ofNat
 |0,i=>rfl
 |n+1,i=>by
  rw [gI];have hsz:(ByteArray.mk s.toArray).size=s.length:=by simp [ByteArray.size]
  by_cases h:i<s.length
  ·rw [if_pos (by rw [hsz];exact h),rB (fun e=>by have:=congrArg List.length e;simp at this;omega),vk s n,FM,List.map_cons,List.drop_drop]
  ·rw [if_neg (by rw [hsz];exact h),List.drop_of_length_le (by omega),HC];rfl
theorem FN(s:Str):dQ s=(lV s).map Int.ofNat:=by
 unfold dQ lV;rw [vk,List.drop_zero]
def Jv(r w:Nat):Bool:=((r:Int) == 65533)&&decide ((w:Int)<2)||decide ((r:Int)<32)||((r:Int) == 127)
def tO:Nat→Str→Bool
 |0,_=>true
 |n+1,s=>match s with
  |[]=>true
  |c::t => !Jv (eP (c::t)).1 (eP (c::t)).2&&tO n ((c::t).drop (eP (c::t)).2)
theorem FO(n:Nat):tO n []=true:=by cases n<;>rfl
theorem DI{n:Nat}{s:Str}(h:s≠[]):tO (n+1) s=(!Jv (eP s).1 (eP s).2&&tO n (s.drop (eP s).2)):=by
 cases s with
 |nil=>exact absurd rfl h
 |cons c t=>rfl
def sa(s:Str):Bool:=tO s.length s
theorem vl:∀ l:List Nat,runeStr (l.map Int.ofNat)=(l.map fun r=>(Utf8.encode ((r:Nat):Int)).data.toList).flatten
 |[]=>rfl
 |r::l=>by rw [List.map_cons,runeStr,vl l,List.map_cons,List.flatten_cons,Int.ofNat_eq_natCast]
def zy(l:List Nat):Str:=(l.map fun r=>(Utf8.encode ((r:Nat):Int)).data.toList).flatten
theorem FP(r:Nat)(l:List Nat):zy (r::l)=(Utf8.encode (r:Int)).data.toList++zy l:=rfl
theorem Jw{r:Nat}(h:r=65533):(Utf8.encode (r:Int)).data.toList=[239,191,189]:=by
 rw [Extern.FmtText.enc3 r (by omega) (by omega) (by omega),h];rfl
theorem Jy(t:Str):eP (239::191::189::t)=(65533,3):=by
 unfold eP;rw [Lib.decodeL_N];simp [Lib.decodeN]
def yp:Nat→Str→Bool
 |0,_=>true
 |n+1,s=>match s with
  |[]=>true
  |c::t => !(((eP (c::t)).1 == 65533)&&((eP (c::t)).2 == 1))&&yp n ((c::t).drop (eP (c::t)).2)
theorem Ab:∀ (n:Nat) (s:Str),s.length≤n→((zy (wi n s) == s)=yp n s)
 |0,s,h=>by
  obtain rfl:s=[]:=List.eq_nil_of_length_eq_zero (by omega);rfl
 |n+1,[],_=>rfl
 |n+1,c::t,h=>by
  have hw:=Bl (c::t);have ih:=Ab n ((c::t).drop (eP (c::t)).2) (by rw [List.length_drop];simp at h ⊢;omega);rw [rB (by simp),FP,yp]
  by_cases hb:(eP (c::t)).1=65533∧(eP (c::t)).2=1
  ·have hbb:(((eP (c::t)).1 == 65533)&&((eP (c::t)).2 == 1))=true:=by simp [hb]
   rw [hbb,Bool.not_true,Bool.false_and,beq_eq_false_iff_ne,Jw hb.1];intro e;generalize zy (wi n ((c::t).drop (eP (c::t)).2))=u at e;have e2:c::t=(239:UInt8)::191::189::u:=by rw [← e];rfl
   rw [e2,Jy] at hb;exact absurd hb.2 (by decide)
  ·have hbb:(((eP (c::t)).1 == 65533)&&((eP (c::t)).2 == 1))=false:=by
    rw [Bool.and_eq_false_iff]
    by_cases h1:(eP (c::t)).1=65533
    ·right;simp;exact fun h2=>hb ⟨h1,h2⟩
    ·left;simpa using h1
   rw [hbb,Bool.not_false,Bool.true_and,← ih,Ju (by simp) hb,Bool.eq_iff_iff,beq_iff_eq,beq_iff_eq];constructor
   ·intro e
    have e3:(c::t).take (eP (c::t)).2++zy (wi n ((c::t).drop (eP (c::t)).2))=(c::t).take (eP (c::t)).2++(c::t).drop (eP (c::t)).2:=by rw [List.take_append_drop];exact e
    exact List.append_cancel_left e3
   ·intro e
    rw [e,List.take_append_drop]
def okR(l:List Nat):Bool:=l.all fun r => !(decide ((r:Int)<32)||((r:Int) == 127))
theorem yq:∀ (n:Nat) (s:Str),s.length≤n→(yp n s&&okR (wi n s))=tO n s
 |0,s,h=>rfl
 |n+1,[],_=>rfl
 |n+1,c::t,h=>by
  have hw:=Bl (c::t);have ih:=yq n ((c::t).drop (eP (c::t)).2) (by rw [List.length_drop];simp at h ⊢;omega);rw [rB (by simp),yp,tO,← ih];unfold okR Jv;rw [List.all_cons];have e1:(((eP (c::t)).1:Int) == 65533)=((eP (c::t)).1 == 65533):=by rw [Bool.eq_iff_iff];simp;omega
  have e2:decide (((eP (c::t)).2:Int)<2)=((eP (c::t)).2 == 1):=by rw [Bool.eq_iff_iff];simp;omega
  rw [e1,e2];cases ((eP (c::t)).1 == 65533)<;>cases ((eP (c::t)).2 == 1)<;>cases decide (((eP (c::t)).1:Int)<32)<;>cases (((eP (c::t)).1:Int) == 127)<;>simp
theorem FQ(s:Str):(sel (zy (lV s) == s) (okR (lV s)) false)=sa s:=by
 unfold sa;rw [← yq s.length s (Nat.le_refl _),← Ab s.length s (Nat.le_refl _)];show sel _ _ _=(zy (lV s) == s&&_)
 cases zy (lV s) == s<;>rfl
theorem CD:∀ (n:Nat) (s:Str),(wi n s).length≤s.length
 |0,_=>Nat.zero_le _
 |n+1,[]=>by simp [wi]
 |n+1,c::t=>by
  have hw:=Bl (c::t);have:=CD n ((c::t).drop (eP (c::t)).2);rw [rB (by simp),List.length_cons];rw [List.length_drop] at this;simp at this ⊢;omega
theorem DJ(s:Str):(lV s).length≤s.length:=CD _ _
end Go.Am
