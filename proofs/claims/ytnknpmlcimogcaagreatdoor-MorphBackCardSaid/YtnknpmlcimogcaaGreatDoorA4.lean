import Derived.Test.YtnknpmlcimogcaaGreatDoorA3
import Derived.IntWalk
import Derived.Laws.Externs
import Derived.Lib.Bytealg
import Derived.Lib.MakeNoZero
import Derived.Lib.Builder
import Derived.Carry
import Derived.Lib.AtoiAll
import Derived.Shelf.Strconv.AtoiAll
import Derived.Lib.LaidTab
import Derived.Stop.LaidErr
import Derived.Lib.ItoaNum
import Derived.Deep.Slices
import Derived.DataReads
import Derived.SizedLaws
/-
  Part 4 of the tool: an abstract machine over the model, proved sound, and what it says of the functions that the law reaches. Condition: none but those that each theorem names.
-/
set_option linter.unusedVariables false
set_option linter.unusedSimpArgs false
section
namespace Go.Am
open Go.RowKit
def WkL(n:Nat):List AV→List AV→Prop
 |[],[]=>True
 |x::xs,y::ys=>Wk n x y∧WkL n xs ys
 |_,_=>False
theorem WkL.len{n:Nat}:∀ {xs ys:List AV},WkL n xs ys→xs.length=ys.length
 |[],[],_=>rfl
 |_::_,_::_,h=>by simp [WkL.len h.2]
 |[],_::_,h=>h.elim
 |_::_,[],h=>h.elim
theorem WkL.get{n:Nat}:∀ {xs ys:List AV},WkL n xs ys→∀ (i:Nat) (y:AV),ys[i]?=some y→∃ x,xs[i]?=some x∧Wk n x y
 |[],[],_,i,y,h=>by simp at h
 |x::xs,z::ys,h,0,y,hy=>by simp at hy;subst hy;exact ⟨x,rfl,h.1⟩
 |x::xs,z::ys,h,i+1,y,hy=>by simpa using WkL.get h.2 i y (by simpa using hy)
 |[],_::_,h,_,_,_=>h.elim
 |_::_,[],h,_,_,_=>h.elim
theorem WkL.vs{n:Nat}{xs ys:List AV}(h:WkL n xs ys){K:ak}(hn:n≤K.loc.length){vs:Array Value}(hv:Vs K xs vs):Vs (K.trunc n) ys vs:=
 ⟨by rw [← h.len];exact hv.size,fun i av hi=>by
  obtain ⟨x,h1,h2⟩:=h.get i av hi;exact h2 K _ hn (hv.at_ i x h1)⟩
theorem wk_tuple{n:Nat}{xs ys:List AV}(h:WkL n xs ys):Wk n (.tuple xs) (.tuple ys):=fun K x hn hv=>by
 obtain ⟨vs,rfl,hvs⟩:=hv.tuple_inv;have:=h.vs hn hvs;exact .tuple _ _ this.size this.at_
theorem wk_agg{n:Nat}{xs ys:List AV}(h:WkL n xs ys):Wk n (.agg xs) (.agg ys):=fun K x hn hv=>by
 obtain ⟨vs,rfl,hvs⟩:=hv.agg_inv;have:=h.vs hn hvs;exact .agg _ _ this.size this.at_
theorem wk_iface{n:Nat}{t:TypeId}{v:AV}(h:Wk n v v):Wk n (.iface t v) (.iface t v):=fun K x hn hv=>by
 cases hv with | iface _ _ y hy=>exact .iface _ _ _ (h K y hn hy)
theorem wk_fn{n:Nat}{f:Fn}{xs ys:List AV}(h1:WkL n xs xs)(h2:WkL n ys ys):Wk n (.fn f xs ys) (.fn f xs ys):=fun K x hn hv=>by
 obtain ⟨vs,us,rfl,h3,h4⟩:=hv.fn_inv;exact Vs.fn (h1.vs hn h3) (h2.vs hn h4)
theorem wk_ptr{n id off:Nat}(h:id<n):Wk n (.ptr id off) (.ptr id off):=fun K x hn hv=>by
 cases hv with | ptr _ _ b hb=>exact .ptr _ _ b (iy hb h)
theorem wk_map{n id:Nat}(h:id<n):Wk n (.map id) (.map id):=fun K x hn hv=>by
 cases hv with | map _ b hb=>exact .map _ b (iy hb h)
theorem wk_rslice{n id off len esz:Nat}{room:Bool}(h:id<n):Wk n (.rslice id off len esz room) (.rslice id off len esz room):=fun K x hn hv=>by
 cases hv with | rslice _ _ _ _ _ b cap hb hc hs=>exact .rslice _ _ _ _ _ b cap (iy hb h) hc hs
def kB(n:Nat)(rows:List (List AV)):Prop:=∀ r∈rows,WkL n r r
theorem kB.get{n:Nat}{rows:List (List AV)}(h:kB n rows){K:ak}(hn:n≤K.loc.length){i j:Nat}{r:List AV}{av:AV}(h1:rows[i]?=some r)(h2:r[j]?=some av){v:Value}(hv:V K av v):V (K.trunc n) av v:=by
 obtain ⟨x,h3,h4⟩:=(h r (List.mem_of_getElem? h1)).get j av h2;rw [h2] at h3;cases h3;exact h4 K v hn hv
def Iv(n:Nat):Tag→Prop
 |.own t=>t<n
 |_=>True
theorem wk_slice{n esz:Nat}{tag:Tag}{rows:List (List AV)}(ht:Iv n tag)(h:kB n rows):Wk n (.slice tag esz rows) (.slice tag esz rows):=fun K x hn hv=>by
 cases hv with
 |slice0 _ _ a ha=>
  refine .slice0 _ _ a ⟨fun t e => ?_,ha.2⟩;subst e;have h1:t<n:=ht;have h2:=ha.1 t rfl;refine ⟨?_,h2.2⟩;show t<(_:List Nat).length;simp only [ak.trunc,List.length_take];omega
 |sliceAny _ _ a cap hs=>exact .sliceAny _ _ a cap hs
 |slice _ _ _ b o cap vs hl hi hv hc htag=>
  exact .slice _ _ _ b o cap vs hl hi (fun i j r av h1 h2=>h.get hn h1 h2 (hv i j r av h1 h2)) hc (zg htag fun t e=>by subst e;exact ht)
theorem wk_any{n esz:Nat}{tag:Tag}{rows:List (List AV)}(h:kB n rows):Wk n (.slice tag esz rows) (.slice .any esz rows):=fun K x hn hv=>by
 cases hv with
 |slice0 _ _ a ha=>exact .sliceAny .any _ a 0 (.inl rfl)
 |sliceAny _ _ a cap h=>exact .sliceAny .any _ a cap (.inl rfl)
 |slice _ _ _ b o cap vs hl hi hv hc htag=>
  exact .slice _ _ _ b o cap vs hl hi (fun i j r av h1 h2=>h.get hn h1 h2 (hv i j r av h1 h2)) hc trivial
theorem wk_vptr{n esz i off:Nat}{rows:List (List AV)}(h:kB n rows):Wk n (.vptr esz rows i off) (.vptr esz rows i off):=fun K x hn hv=>by
 cases hv with
 |vptr _ _ _ _ b o vs hl hi hv=>exact .vptr _ _ _ _ b o vs hl hi (fun i j r av h1 h2=>h.get hn h1 h2 (hv i j r av h1 h2))
theorem Bx(n:Nat):kB n []:=fun _ h=>by cases h
theorem rowsWk_cons(n:Nat)(r:List AV)(rows:List (List AV)):kB n (r::rows)=(WkL n r r∧kB n rows):=by simp [kB]
theorem rowsWk_append(n:Nat)(r rows:List (List AV)):kB n (r++rows)=(kB n r∧kB n rows):=by
 simp only [kB,List.mem_append,eq_iff_iff];exact ⟨fun h=>⟨fun x hx=>h x (.inl hx),fun x hx=>h x (.inr hx)⟩,fun h x hx=>hx.elim (h.1 x) (h.2 x)⟩
theorem rowsWk_map{α:Type}(n:Nat)(l:List α)(f:α→List AV):kB n (l.map f) = ∀ x∈l,WkL n (f x) (f x):=by simp [kB]
theorem wkL_nil(n:Nat):WkL n [] []:=trivial
theorem wkL_cons(n:Nat)(x y:AV)(xs ys:List AV):WkL n (x::xs) (y::ys)=(Wk n x y∧WkL n xs ys):=rfl
theorem anyV_bool(b:Bool):yH (.bool b) = .bool b:=rfl
theorem anyV_int(k:IntKind)(n:Int):yH (.int k n) = .int k n:=rfl
theorem anyV_str(s:List UInt8):yH (.str s) = .str s:=rfl
theorem anyV_slice(t:Tag)(n:Nat)(r:List (List AV)):yH (.slice t n r) = .slice .any n r:=rfl
theorem anyV_agg(l:List AV):yH (.agg l) = .agg (l.map xr):=rfl
theorem anyV_tuple(l:List AV):yH (.tuple l) = .tuple (l.map xr):=rfl
theorem anyV_iface(t:TypeId)(v:AV):yH (.iface t v) = .iface t v:=rfl
theorem anyV_nilif:yH .nilif = .nilif:=rfl
theorem anyV_nilp:yH .nilp = .nilp:=rfl
theorem Qm(i o:Nat):yH (.ptr i o) = .ptr i o:=rfl
theorem anyV_fn(f:Fn)(x y:List AV):yH (.fn f x y) = .fn f x y:=rfl
theorem anyV_undef:yH gH=gH:=rfl
theorem anyS_bool(b:Bool):xr (.bool b) = .bool b:=rfl
theorem anyS_int(k:IntKind)(n:Int):xr (.int k n) = .int k n:=rfl
theorem anyS_str(s:List UInt8):xr (.str s) = .str s:=rfl
theorem anyS_slice(t:Tag)(n:Nat)(r:List (List AV)):xr (.slice t n r) = .slice .any n r:=rfl
theorem anyS_agg(l:List AV):xr (.agg l) = .agg l:=rfl
theorem anyS_iface(t:TypeId)(v:AV):xr (.iface t v) = .iface t v:=rfl
theorem anyS_nilif:xr .nilif = .nilif:=rfl
theorem OJ:xr .nilp = .nilp:=rfl
theorem anyS_ptr(i o:Nat):xr (.ptr i o) = .ptr i o:=rfl
theorem anyS_fn(f:Fn)(x y:List AV):xr (.fn f x y) = .fn f x y:=rfl
def WkE(n:Nat)(a:Env):List Nat→Prop
 |[]=>True
 |t::l=>Wk n (dR a t) (dR a t)∧WkE n a l
theorem WkE.all{n:Nat}{a:Env}:∀ {l:List Nat},WkE n a l→∀ t∈l,Wk n (dR a t) (dR a t)
 |[],_,t,h=>by cases h
 |x::l,h,t,ht=>by
  rcases List.mem_cons.1 ht with rfl | ht
  ·exact h.1
  ·exact WkE.all h.2 t ht
theorem wkE_nil(n:Nat)(a:Env):WkE n a []:=trivial
theorem wkE_cons(n:Nat)(a:Env)(t:Nat)(l:List Nat):WkE n a (t::l)=(Wk n (dR a t) (dR a t)∧WkE n a l):=rfl
theorem fkeep_nil(a:Env):pj a [] = .leaf:=rfl
theorem fkeep_cons(a:Env)(t:Nat)(l:List Nat):pj a (t::l)=mE (pj a l) t (dR a t):=rfl
theorem back_no(dec:Dec)(l:List Nat)(t:List (Nat×Nat×TypeId))(He:List AObj)(a:Env)(H:List AObj):pn dec ⟨some l,t,false⟩ He a H=some (pj a l,H):=rfl
theorem Qo(l:List Nat)(t:List (Nat×Nat×TypeId)){He:List AObj}{a:Env}{H:List AObj}(h1:dP He H)(h2:WkE He.length a l):pn bT ⟨some l,t,true⟩ He a H=some (pj a l,H.take He.length):=by
 unfold pn;simp only [if_true,OF h1 h2.all]
theorem in_no(l:List Nat)(c:Bool)(a:Env)(H:List AObj):po ⟨some l,[],c⟩ a H=(pj a l,H):=rfl
def TZ(l:List Nat)(r:Env×List AObj):Env×List AObj:=(pj r.1 l,r.2)
theorem in_tok(l:List Nat)(t:Nat×Nat×TypeId)(ts:List (Nat×Nat×TypeId))(c:Bool)(a:Env)(H:List AObj):po ⟨some l,t::ts,c⟩ a H=TZ l (vW (t::ts) a H):=rfl
theorem reliv_mk(l:List Nat)(a:Env)(H:List AObj):TZ l (a,H)=(pj a l,H):=rfl
def Qp(l:List (Nat×Nat×TypeId))(a:Env)(H:List AObj)(t sz:Nat)(e:TypeId)(v:AV):Env×List AObj:=
 match v with
 |.slice .nil _ []=>vW l (mE a t (.slice (.own H.length) sz [])) (H++[.tok 0 e])
 |.slice .full n rows=>if E7 rows=false then vW l (mE a t (.slice (.own H.length) n rows)) (H++[.tok (rows.length*n) e]) else vW l a H
 |_=>vW l a H
theorem tokz_nil(a:Env)(H:List AObj):vW [] a H=(a,H):=rfl
theorem tokz_cons(t sz:Nat)(e:TypeId)(l:List (Nat×Nat×TypeId))(a:Env)(H:List AObj):vW ((t,sz,e)::l) a H=Qp l a H t sz e (dR a t):=rfl
theorem tokV_nil(l:List (Nat×Nat×TypeId))(a:Env)(H:List AObj)(t sz:Nat)(e:TypeId)(n:Nat):Qp l a H t sz e (.slice .nil n [])=vW l (mE a t (.slice (.own H.length) sz [])) (H++[.tok 0 e]):=rfl
theorem tokV_full(l:List (Nat×Nat×TypeId))(a:Env)(H:List AObj)(t sz:Nat)(e:TypeId)(n:Nat)(rows:List (List AV)):Qp l a H t sz e (.slice .full n rows)=if E7 rows=false then vW l (mE a t (.slice (.own H.length) n rows)) (H++[.tok (rows.length*n) e]) else vW l a H:=rfl
theorem tokV_own(l:List (Nat×Nat×TypeId))(a:Env)(H:List AObj)(t sz:Nat)(e:TypeId)(n t':Nat)(rows:List (List AV)):Qp l a H t sz e (.slice (.own t') n rows)=vW l a H:=rfl
theorem tokV_any(l:List (Nat×Nat×TypeId))(a:Env)(H:List AObj)(t sz:Nat)(e:TypeId)(n:Nat)(rows:List (List AV)):Qp l a H t sz e (.slice .any n rows)=vW l a H:=rfl
def kv:List (Nat×AV)→Env
 |[]=>.leaf
 |(t,v)::l=>mE (kv l) t v
theorem kv_nil:kv [] = .leaf:=rfl
theorem kv_cons(t:Nat)(v:AV)(l:List (Nat×AV)):kv ((t,v)::l)=mE (kv l) t v:=rfl
theorem au{dec:Dec}{E:bc}(M:cE dec E){fn:AFn}{H0:List AObj}{x y:AC}(h:x=y){k:List Fra}{a:Env}{H:List AObj}:M.go fn H0 (.c x::k) a H=M.go fn H0 (.c y::k) a H:=by rw [h]
def SJ(b:Bool)(id:Nat)(k:List Fra):Option (List Fra):=
 match b with
 |true=>some k
 |false=>unw id k
theorem unw_c(id:Nat)(x:AC)(k:List Fra):unw id (.c x::k)=unw id k:=rfl
theorem unw_lp(id:Nat)(h:LH)(x:AC)(He:List AObj)(k:List Fra):unw id (.lp h x He::k)=unw id k:=rfl
theorem unw_blk(id j:Nat)(k:List Fra):unw id (.blk j::k)=SJ (j == id) id k:=by
 simp only [unw,SJ]
 by_cases h:j=id
 ·subst h;simp
 ·rw [if_neg h,show (j == id)=false by simpa using h]
theorem unwB_true(id:Nat)(k:List Fra):SJ true id k=some k:=rfl
theorem MJ(id:Nat)(k:List Fra):SJ false id k=unw id k:=rfl
theorem lx_map0(f:RX→AV):List.map f []=[]:=rfl
theorem lx_map1(f:RX→AV)(x:RX)(l:List RX):List.map f (x::l)=f x::List.map f l:=rfl
theorem lx_any0:List.map xr []=[]:=rfl
theorem lx_any1(x:AV)(l:List AV):List.map xr (x::l)=xr x::List.map xr l:=rfl
theorem lx_str0:List.map AV.strip []=[]:=rfl
theorem lx_str1(x:AV)(l:List AV):List.map AV.strip (x::l)=AV.strip x::List.map AV.strip l:=rfl
theorem lx_app0(l:List AV):[]++l=l:=rfl
theorem lx_app1(x:AV)(l l':List AV):(x::l)++l'=x::(l++l'):=rfl
theorem lx_app2(l:List AV):l++[]=l:=List.append_nil l
theorem lx_app3(l l' l2:List AV):(l++l')++l2=l++(l'++l2):=List.append_assoc l l' l2
theorem NO(x:AObj)(l l':List AObj):(x::l)++l'=x::(l++l'):=rfl
theorem lo_app0(l:List AObj):[]++l=l:=rfl
theorem lo_app2(l:List AObj):l++[]=l:=List.append_nil l
theorem lo_app3(l l' l2:List AObj):(l++l')++l2=l++(l'++l2):=List.append_assoc l l' l2
theorem lo_len(l l':List AObj):(l++l').length=l.length+l'.length:=List.length_append
theorem lo_len0:([]:List AObj).length=0:=rfl
theorem lo_len1(x:AObj)(l:List AObj):(x::l).length=l.length+1:=rfl
theorem lo_get0(x:AObj)(l:List AObj):(x::l)[0]?=some x:=rfl
theorem lo_get1(x:AObj)(l:List AObj)(n:Nat):(x::l)[n+1]?=l[n]? := rfl
theorem lo_set0(x y:AObj)(l:List AObj):(x::l).set 0 y=y::l:=rfl
theorem lo_set1(x y:AObj)(l:List AObj)(n:Nat):(x::l).set (n+1) y=x::l.set n y:=rfl
theorem SK(x:AV)(l:List AV):(x::l)[0]?=some x:=rfl
theorem lv_get1(x:AV)(l:List AV)(n:Nat):(x::l)[n+1]?=l[n]? := rfl
theorem lv_set0(x y:AV)(l:List AV):(x::l).set 0 y=y::l:=rfl
theorem lv_set1(x y:AV)(l:List AV)(n:Nat):(x::l).set (n+1) y=x::l.set n y:=rfl
theorem lv_len0:([]:List AV).length=0:=rfl
theorem lv_len1(x:AV)(l:List AV):(x::l).length=l.length+1:=rfl
theorem ln_lt(i j:Nat):((i:Int)<(j:Int))=(i<j):=by rw [Int.ofNat_lt]
theorem ln_le(i j:Nat):((i:Int)≤(j:Int))=(i≤j):=by rw [Int.ofNat_le]
theorem ln_eq(i j:Nat):((i:Int) == (j:Int))=(i == j):=by
 rw [Bool.eq_iff_iff];simp [Int.ofNat_inj]
theorem lr_row0(cs:List AV)(o:Nat):aU cs o []=cs:=by cases cs<;>rfl
theorem lr_row1(cs:List AV)(o:Nat)(v:AV)(r:List AV):aU cs o (v::r)=aU (cs.set o v) (o+1) r:=rfl
theorem eL(H L:List AObj):(H++L)[H.length]?=L[0]? := by rw [List.getElem?_append_right (Nat.le_refl _)];simp
theorem hp_getk(H L:List AObj)(k:Nat):(H++L)[H.length+k]?=L[k]? := by rw [List.getElem?_append_right (by omega)];congr 1;omega
theorem cP{H L:List AObj}{i:Nat}{x:AObj}(h:H[i]?=some x):(H++L)[i]?=some x:=by
 rw [List.getElem?_append_left (List.getElem?_eq_some_iff.1 h).1];exact h
theorem hp_set0(H L:List AObj)(x:AObj):(H++L).set H.length x=H++L.set 0 x:=by rw [List.set_append_right _ _ (Nat.le_refl _)];simp
theorem hp_setk(H L:List AObj)(k:Nat)(x:AObj):(H++L).set (H.length+k) x=H++L.set k x:=by
 rw [List.set_append_right _ _ (by omega)];congr 2;omega
theorem hp_take(H L:List AObj):(H++L).take H.length=H:=List.take_left' rfl
theorem hp_self(H:List AObj):H.take H.length=H:=List.take_length
theorem fO{n:Int}(h1 : -9223372036854775808≤n)(h2:n≤9223372036854775807):IntKind.i64.wrap n=n:=IntWalk.i64_in n ⟨h1,h2⟩
theorem Dc{i:Nat}(h1:i<4611686018427387904):IntKind.i64.wrap (((i+1:Nat):Int)-1)=(i:Int):=by
 rw [fO (by omega) (by omega)];omega
def zP(x:Option UInt8):Option AV:=
 match x with
 |some c=>some (.int .u8 c.toNat)
 |none=>none
theorem byteO_some(c:UInt8):zP (some c)=some (.int .u8 c.toNat):=rfl
theorem rixs_i(s:List UInt8)(k:IntKind)(i:Nat):Kz (.str s) (.int k (i:Int))=zP s[i]? := by
 simp [Kz,zP];cases s[i]? <;> rfl
theorem rixs_l0(s:List UInt8)(k:IntKind):Kz (.str s) (.int k 0)=zP s[0]? := rixs_i s k 0
theorem rixs_l1(s:List UInt8)(k:IntKind):Kz (.str s) (.int k 1)=zP s[1]? := rixs_i s k 1
theorem rixs_l2(s:List UInt8)(k:IntKind):Kz (.str s) (.int k 2)=zP s[2]? := rixs_i s k 2
theorem rias_nat{tag:Tag}{sz esz:Nat}{rows:List (List AV)}{k:IntKind}{i:Nat}(h:i<rows.length):qi sz (.slice tag sz rows) (.int k (i:Int))=some (.vptr sz rows i 0):=by
 simp [qi,h]
theorem Qq(H:List AObj)(s:List UInt8):Bq H .str (.str s)=some (.int .i64 s.length):=rfl
theorem rlen_sl(H:List AObj)(t:Tag)(n:Nat)(r:List (List AV)):Bq H .sl (.slice t n r)=some (.int .i64 r.length):=rfl
theorem rlen_rs(H:List AObj)(i o l n:Nat)(b:Bool):Bq H .sl (.rslice i o l n b)=some (.int .i64 l):=rfl
theorem aun_not(b:Bool):Ib .not (.bool b)=some (.bool (!b)):=rfl
theorem ar_add(k:IntKind)(m n:Int):mF .add k m n=some (.int k (k.wrap (m+n))):=rfl
theorem ar_sub(k:IntKind)(m n:Int):mF .sub k m n=some (.int k (k.wrap (m-n))):=rfl
theorem ar_mul(k:IntKind)(m n:Int):mF .mul k m n=some (.int k (k.wrap (m*n))):=rfl
theorem ar_eql(k:IntKind)(m n:Int):mF .eql k m n=some (.bool (m == n)):=rfl
theorem ar_neq(k:IntKind)(m n:Int):mF .neq k m n=some (.bool (!(m == n))):=rfl
theorem ar_lss(k:IntKind)(m n:Int):mF .lss k m n=some (.bool (decide (m<n))):=rfl
theorem ar_leq(k:IntKind)(m n:Int):mF .leq k m n=some (.bool (decide (m≤n))):=rfl
theorem UE(k:IntKind)(m n:Int):mF .gtr k m n=some (.bool (decide (n<m))):=rfl
theorem ar_geq(k:IntKind)(m n:Int):mF .geq k m n=some (.bool (decide (n≤m))):=rfl
theorem st_eql(s t:List UInt8):mG .eql s t=some (.bool (s == t)):=rfl
theorem st_neq(s t:List UInt8):mG .neq s t=some (.bool (!(s == t))):=rfl
theorem st_lss(s t:List UInt8):mG .lss s t=some (.bool (Op.bytesLess s t)):=rfl
theorem st_leq(s t:List UInt8):mG .leq s t=some (.bool (Op.bytesLess s t||s == t)):=rfl
theorem st_gtr(s t:List UInt8):mG .gtr s t=some (.bool (!(Op.bytesLess s t||s == t))):=rfl
theorem st_geq(s t:List UInt8):mG .geq s t=some (.bool (!Op.bytesLess s t)):=rfl
theorem JF{s t:List UInt8}(h:s.length+t.length<9223372036854775808):mG .add s t=some (.str (s++t)):=by simp [mG,h]
def VX(g:Option Nat)(off:Nat)(r:Option (List AV)):Option AV:=
 match r with
 |some r=>bJ g r off
 |none=>none
def objO(g:Option Nat)(off:Nat)(x:Option AObj):Option AV:=
 match x with
 |some (.cells cs _)=>bJ g cs off
 |_=>none
theorem ld_ptr(g:Option Nat)(H:List AObj)(i o:Nat):nj g H (.ptr i o)=objO g o H[i]? := rfl
theorem ld_vptr(g:Option Nat)(H:List AObj)(n:Nat)(rows:List (List AV))(i o:Nat):nj g H (.vptr n rows i o)=VX g o rows[i]? := rfl
theorem rowO_some(g:Option Nat)(o:Nat)(r:List AV):VX g o (some r)=bJ g r o:=rfl
theorem MK(g:Option Nat)(o:Nat)(cs:List AV)(T:TypeId):objO g o (some (.cells cs T))=bJ g cs o:=rfl
def NP(x:AV)(l:Option (List AV)):Option (List AV):=
 match l with
 |some l=>some (x::l)
 |none=>none
def oQ:Nat→List AV→Option (List AV)
 |0,_=>some []
 |_+1,[]=>none
 |n+1,x::l=>NP x (oQ n l)
def UF(l:Option (List AV)):Option AV:=
 match l with
 |some l=>some (.agg l)
 |none=>none
theorem K9:∀ (n:Nat) (l:List AV),oQ n l=if n≤l.length then some (l.take n) else none
 |0,l=>by simp [oQ]
 |n+1,[]=>by simp [oQ]
 |n+1,x::l=>by
  rw [oQ,K9 n l]
  by_cases h:n≤l.length<;>simp [NP,h]
theorem rl_agg0(n:Nat)(cs:List AV):bJ (some n) cs 0=UF (oQ n cs):=by
 rw [K9];simp only [bJ,Nat.zero_add,List.drop_zero]
 by_cases h:n≤cs.length<;>simp [UF,h]
theorem rl_agg1(n:Nat)(x:AV)(cs:List AV)(o:Nat):bJ (some n) (x::cs) (o+1)=bJ (some n) cs o:=by
 simp only [bJ,List.length_cons,List.drop_succ_cons]
 by_cases h:o+n≤cs.length
 ·rw [if_pos h,if_pos (by omega)]
 ·rw [if_neg h,if_neg (by omega)]
theorem rl_one0(x:AV)(cs:List AV):bJ none (x::cs) 0=some x:=rfl
theorem rl_one1(x:AV)(cs:List AV)(o:Nat):bJ none (x::cs) (o+1)=bJ none cs o:=rfl
theorem takeO_0(l:List AV):oQ 0 l=some []:=by cases l<;>rfl
theorem takeO_1(n:Nat)(x:AV)(l:List AV):oQ (n+1) (x::l)=NP x (oQ n l):=rfl
theorem consL_some(x:AV)(l:List AV):NP x (some l)=some (x::l):=rfl
theorem aggO_some(l:List AV):UF (some l)=some (.agg l):=rfl
theorem fa_ptr(o i off:Nat):rfa o (.ptr i off)=some (.ptr i (off+o)):=rfl
theorem fa_vptr(o n:Nat)(rows:List (List AV))(i off:Nat):rfa o (.vptr n rows i off)=some (.vptr n rows i (off+o)):=rfl
theorem UG(g:Option Nat)(o:Nat)(cs:List AV):rfd g o (.agg cs)=bJ g cs o:=rfl
theorem ex_0(x:AV)(l:List AV):pa (.tuple (x::l)) 0=some x:=rfl
theorem ex_1(x y:AV)(l:List AV):pa (.tuple (x::y::l)) 1=some y:=rfl
theorem ex_2(x y z:AV)(l:List AV):pa (.tuple (x::y::z::l)) 2=some z:=rfl
theorem ac_int(k:IntKind)(n:Int):dD (.int k n)=some [.int k n]:=rfl
theorem ac_bool(b:Bool):dD (.bool b)=some [.bool b]:=rfl
theorem ac_str(s:List UInt8):dD (.str s)=some [.str s]:=rfl
theorem ac_agg(l:List AV):dD (.agg l)=some l:=rfl
theorem ac_slice(t:Tag)(n:Nat)(r:List (List AV)):dD (.slice t n r)=some [.slice t n r]:=rfl
theorem ac_rslice(i o l n:Nat)(b:Bool):dD (.rslice i o l n b)=some [.rslice i o l n b]:=rfl
theorem ac_fn(f:Fn)(x y:List AV):dD (.fn f x y)=some [.fn f x y]:=rfl
theorem ac_ptr(i o:Nat):dD (.ptr i o)=some [.ptr i o]:=rfl
theorem ac_nilp:dD .nilp=some [.nilp]:=rfl
theorem ac_nilfn:dD .nilfn=some [.nilfn]:=rfl
theorem ac_nilif:dD .nilif=some [.nilif]:=rfl
theorem ac_iface(t:TypeId)(v:AV):dD (.iface t v)=some [.iface t v]:=rfl
def stO(sz:Nat)(H:List AObj)(id off:Nat)(cs:List AV)(x:Option AObj):Option (List AObj):=
 match x with
 |some (.cells old T)=>if cs.length=sz∧off+sz≤old.length∧cs.all AV.cell=true then some (H.set id (.cells (aU old off cs) T)) else none
 |_=>none
def stA(sz:Nat)(H:List AObj)(id off:Nat)(cs:Option (List AV)):Option (List AObj):=
 match cs with
 |some cs=>stO sz H id off cs H[id]?
 |none=>none
theorem st_ptr(sz:Nat)(H:List AObj)(id off:Nat)(v:AV):C3 sz H (.ptr id off) v=stA sz H id off (dD v):=by
 unfold C3 stA;cases dD v<;>rfl
theorem stA_some(sz:Nat)(H:List AObj)(id off:Nat)(cs:List AV):stA sz H id off (some cs)=stO sz H id off cs H[id]? := rfl
theorem stO_cells{sz:Nat}{H:List AObj}{id off:Nat}{cs old:List AV}{T:TypeId}(h1:cs.length=sz)(h2:off+sz≤old.length)(h3:cs.all AV.cell=true):stO sz H id off cs (some (.cells old T))=some (H.set id (.cells (aU old off cs) T)):=by
 simp only [stO];rw [if_pos ⟨h1,h2,h3⟩]
end Go.Am
end
section
set_option linter.defProp false
namespace Go.Am
open Go.RowKit
def am1{dec:Dec}{E:bc}(M:cE dec E):=And.intro (@go_fz dec E M) (And.intro (@fzS_some dec E M) (And.intro (@go_nil dec E M) (And.intro (@go_blk dec E M) (And.intro (@go_lp dec E M) (And.intro (@go_skip dec E M) (And.intro (@go_exit dec E M) (And.intro (@go_ret dec E M) (And.intro (@go_seq dec E M) (And.intro (@go_lv dec E M) (And.intro (@go_cond dec E M) (And.intro (@go_block dec E M) (And.intro (@go_loop dec E M) (And.intro (@go_ops0 dec E M) (And.intro (@go_op dec E M) (And.intro (@go_opg dec E M) (And.intro (@go_call dec E M) (And.intro (@go_panic dec E M) (And.intro (@go_dops0 dec E M) (And.intro (@go_dop dec E M) (And.intro (@go_dopg dec E M) (And.intro (@go_dcall dec E M) (And.intro (@stepR_op dec E M) (And.intro (@stepR_call dec E M) (And.intro (@stepR_panic dec E M) (And.intro (@stepD_op dec E M) (And.intro (@stepD_call dec E M) (And.intro (@SG dec E M) (And.intro (@aft_panic dec E M) (And.intro (@aftD_some dec E M) (And.intro (@condR_bool dec E M) (And.intro (@unwR_some dec E M) (And.intro (@backR_some dec E M) (And.intro (@inR_mk dec E M) (And.intro (@SH dec E M) (And.intro (@go_sc dec E M) (And.intro (@go_lbl dec E M) (And.intro (@go_goto dec E M) (And.intro (@go_scope dec E M) (And.intro (@go_rfn dec E M) (And.intro (@go_rnd dec E M) (And.intro (@go_inv dec E M) (And.intro (@stepR_inv dec E M) (And.intro (@unwR_none dec E M) (And.intro (@rfnC_none dec E M) ((@rfnC_some dec E M))))))))))))))))))))))))))))))))))))))))))))))
def am2:=And.intro @pnR_ret (And.intro @pnR_pan (And.intro @panD_e (And.intro @dsel_none (And.intro @dsel_some (And.intro @retO_some (And.intro @ronly_mk (And.intro @runit_mk (And.intro @gsel_bool (And.intro @MH (And.intro @gsel_undef (And.intro @gsel_sel (And.intro @dynW_none (And.intro @dynW_some (And.intro @dynV_some (And.intro @sel_true (And.intro @sel_false (And.intro @sel_self (And.intro @sel_some (And.intro @Qj (And.intro @sel_ret (And.intro @sel_bool (And.intro @sel_not (And.intro @sel_and (And.intro @sel_b1 (And.intro @sel_b2 (And.intro @sel_b3 (And.intro @sel_b4 (And.intro @aput_some (And.intro @aput_none (And.intro @WB (And.intro @rx_c (And.intro @rpk_bool (And.intro @rop_pk (And.intro @rop_mv (And.intro @at2_true (And.intro @at2_false (And.intro @fin_e (And.intro @finP_e (And.intro @finV_some (And.intro @finW_some (And.intro @MI (And.intro @handV_keep (And.intro @rres_one (And.intro @rres1_t (And.intro @rres1_cell (And.intro @consO_some (And.intro @tupO_some (And.intro @rresL_nil (And.intro @rresL_cons (And.intro @rres_two (And.intro @OH (And.intro @rop_nw (And.intro @rop_bd (And.intro @rop_bs (And.intro @rop_ld (And.intro @rop_st (And.intro @rop_ar (And.intro @rop_sh (And.intro @rop_an (And.intro @rop_eq (And.intro @rop_un (And.intro @rop_cvi (And.intro @rop_cvs (And.intro @rop_cvbs (And.intro @rop_cvsb (And.intro @rop_mi (And.intro @rop_ta (And.intro @rop_mf (And.intro @rop_sls (And.intro @rop_sll (And.intro @rop_sla (And.intro @rop_fa (And.intro @UC (And.intro @rop_ias (And.intro @rop_iaa (And.intro @rop_ixs (And.intro @rop_ixa (And.intro @rop_ex (And.intro @rop_mm (And.intro @rop_ms (And.intro @rop_mu (And.intro @rop_lk (And.intro @rop_rg (And.intro @UD (And.intro @rop_len (And.intro @rop_cap (And.intro @rop_ap (And.intro @rop_cp (And.intro @rop_mx (And.intro @rop_mn (And.intro @rop_bx (And.intro @rbx_some (And.intro @rop_nc (And.intro @rar_int (And.intro @SI (And.intro @rop_cvsr (And.intro @rop_cvrs (And.intro @rop_bm (And.intro @rbm_some (And.intro @rop_ba (And.intro @dfinK_nil (And.intro @dfinK_fn (And.intro @jmp_c (And.intro @jmp_lp (And.intro @jmp_blk (And.intro @Uz (And.intro @jmpT_some (And.intro @unw_sc @findT_same))))))))))))))))))))))))))))))))))))))))))))))))))))))))))))))))))))))))))))))))))))))))))))))))))))))))))))
def am3:=And.intro @anyV_bool (And.intro @anyV_int (And.intro @anyV_str (And.intro @anyV_slice (And.intro @anyV_agg (And.intro @anyV_tuple (And.intro @anyV_iface (And.intro @anyV_nilif (And.intro @anyV_nilp (And.intro @Qm (And.intro @anyV_fn (And.intro @anyV_undef (And.intro @anyS_bool (And.intro @anyS_int (And.intro @anyS_str (And.intro @anyS_slice (And.intro @anyS_agg (And.intro @anyS_iface (And.intro @anyS_nilif (And.intro @OJ (And.intro @anyS_ptr (And.intro @anyS_fn (And.intro @fkeep_nil (And.intro @fkeep_cons (And.intro @back_no (And.intro @in_no (And.intro @in_tok (And.intro @reliv_mk (And.intro @tokz_nil (And.intro @tokz_cons (And.intro @tokV_nil (And.intro @tokV_full (And.intro @tokV_own (And.intro @tokV_any (And.intro @kv_nil (And.intro @kv_cons (And.intro @unw_c (And.intro @unw_lp (And.intro @unw_blk (And.intro @unwB_true (And.intro @MJ (And.intro @lx_map0 (And.intro @lx_map1 (And.intro @lx_any0 (And.intro @lx_any1 (And.intro @lx_str0 (And.intro @lx_str1 (And.intro @lx_app0 (And.intro @lx_app1 (And.intro @lx_app2 (And.intro @lx_app3 (And.intro @NO (And.intro @lo_app0 (And.intro @lo_app2 (And.intro @lo_app3 (And.intro @lo_len (And.intro @lo_len0 (And.intro @lo_len1 (And.intro @lo_get0 (And.intro @lo_get1 (And.intro @lo_set0 (And.intro @lo_set1 (And.intro @SK (And.intro @lv_get1 (And.intro @lv_set0 (And.intro @lv_set1 (And.intro @lv_len0 (And.intro @lv_len1 (And.intro @ln_lt (And.intro @ln_le (And.intro @ln_eq (And.intro @lr_row0 (And.intro @lr_row1 (And.intro @eL (And.intro @hp_getk (And.intro @hp_set0 (And.intro @hp_setk (And.intro @hp_take (And.intro @hp_self (And.intro @byteO_some (And.intro @rixs_i (And.intro @rixs_l0 (And.intro @rixs_l1 (And.intro @rixs_l2 (And.intro @Qq (And.intro @rlen_sl (And.intro @rlen_rs (And.intro @aun_not (And.intro @ar_add (And.intro @ar_sub (And.intro @ar_mul (And.intro @ar_eql (And.intro @ar_neq (And.intro @ar_lss (And.intro @ar_leq (And.intro @UE (And.intro @ar_geq (And.intro @st_eql (And.intro @st_neq (And.intro @st_lss (And.intro @st_leq (And.intro @st_gtr (And.intro @st_geq (And.intro @ld_ptr (And.intro @ld_vptr (And.intro @rowO_some (And.intro @MK (And.intro @rl_agg0 (And.intro @rl_agg1 (And.intro @rl_one0 (And.intro @rl_one1 (And.intro @takeO_0 (And.intro @takeO_1 (And.intro @consL_some (And.intro @aggO_some (And.intro @fa_ptr (And.intro @fa_vptr (And.intro @UG (And.intro @ex_0 (And.intro @ex_1 (And.intro @ex_2 (And.intro @ac_int (And.intro @ac_bool (And.intro @ac_str (And.intro @ac_agg (And.intro @ac_slice (And.intro @ac_rslice (And.intro @ac_fn (And.intro @ac_ptr (And.intro @ac_nilp (And.intro @ac_nilfn (And.intro @ac_nilif (And.intro @ac_iface (And.intro @st_ptr (@stA_some))))))))))))))))))))))))))))))))))))))))))))))))))))))))))))))))))))))))))))))))))))))))))))))))))))))))))))))))))))))))))))))))))))))
def am4:=And.intro @cut_refl (And.intro @cut_app (And.intro @handV_drop (And.intro @wk_int (And.intro @wk_bool (And.intro @wk_str (And.intro @wk_unk (And.intro @wk_nilp (And.intro @wk_nilif (And.intro @wk_nilfn (And.intro @OI (And.intro @wk_tuple (And.intro @wk_agg (And.intro @wk_iface (And.intro @wk_fn (And.intro @wk_ptr (And.intro @wk_map (And.intro @wk_rslice (And.intro @wk_slice (And.intro @wk_any (And.intro @wk_vptr (And.intro @Bx (And.intro @rowsWk_cons (And.intro @rowsWk_append (And.intro @rowsWk_map (And.intro @wkL_nil (And.intro @wkL_cons (And.intro @wkE_nil (And.intro @wkE_cons (And.intro @rias_nat (And.intro @stO_cells (And.intro @Qo (@stO_cells))))))))))))))))))))))))))))))))
end Go.Am
end
section
namespace Go.Am
open Go.RowKit
theorem ML(s:Bool)(a:Env)(op:ROp)(T L:List Nat):nB s .pure a op T L=some (T,L):=rfl
theorem La(a:Env)(op:ROp)(T L:List Nat):nB false .wide a op T L=some (T,L):=rfl
theorem OK(s:Bool)(a:Env)(op:ROp)(T L:List Nat):nB s .eff a op T L=some (T,L):=rfl
theorem Qr(s:Bool)(a:Env)(cs:List AV)(e:TypeId)(T L:List Nat):nB s .keep a (.nw cs e) T L=some (T,L):=rfl
theorem Qs(s:Bool)(a:Env)(e:TypeId)(x:RX)(T L:List Nat):nB s .keep a (.bx e x) T L=some (T,L):=rfl
theorem OL(E:bc)(x:AV)(args:List AV)(H:List AObj):iC E .eff x args H=none:=by unfold iC;split<;>rfl
theorem MM(E:bc)(x:AV)(args:List AV)(H:List AObj):iC E .keep x args H=none:=by unfold iC;split<;>rfl
theorem Lb(E:bc)(x:AV)(args:List AV)(H:List AObj):iC E .quiet x args H=none:=by unfold iC;split<;>rfl
theorem Qt(dec:Dec)(E:bc)(g:FuncId)(first cap args:List AV)(H:List AObj)(T L:List Nat)(v:AV)(H':List AObj):oZ dec E .eff (.fn (.func g) first cap) args H T L (some (.ret v,H'))=some (v,H',T,L):=rfl
theorem OM(E:bc)(g:FuncId)(first cap args:List AV)(H:List AObj)(T L:List Nat)(v:AV):oZ bT E .keep (.fn (.func g) first cap) args H T L (some (.ret v,H))=some (v,H,T,L):=by
 unfold oZ n8;simp only [Iu (List.take_length (l:=H)),yI.b,if_true]
theorem Iw{H H':List AObj}(h:H'.take H.length=H):∃ p,bT.turn H H'=some ⟨[],p⟩:=by
 have hl:H.length≤H'.length:=by rw [← h,List.length_take];omega
 have hf:∀ inst:∀ i,Decidable (H'[i]?≠H[i]?),(List.range H.length).filter (fun i => @decide (H'[i]?≠H[i]?) (inst i))=[]:=by
  intro inst;rw [List.filter_eq_nil_iff];intro i hi
  have:H'[i]?=H[i]? := by
   conv=>rhs;rw [← h]
   rw [List.getElem?_take_of_lt (List.mem_range.1 hi)]
  simp [this]
 have d:bT.turn H H'=some ⟨_,_⟩:=dif_pos hl;rw [d];refine ⟨⟨hl,fun i hi _ => ?_⟩, ?_⟩
 ·conv=>rhs;rw [← h]
  rw [List.getElem?_take_of_lt hi]
 ·congr 1
  exact Subtype.ext (hf _)
theorem ON{E:bc}{g:FuncId}{first cap args:List AV}{H H':List AObj}(h:H'.take H.length=H)(T L:List Nat)(v:AV):oZ bT E .stop (.fn (.func g) first cap) args H T L (some (.ret v,H'))=some (v,H',T,L):=by
 obtain ⟨p,e⟩:=Iw h;unfold oZ n8 KY FL;simp only [e,Bool.false_eq_true,if_false,List.nil_append]
theorem OO{E:bc}{g:FuncId}{first cap args:List AV}{H H':List AObj}(h:H'.take H.length=H)(T L:List Nat)(v:AV):oZ bT E .turn (.fn (.func g) first cap) args H T L (some (.ret v,H'))=some (v,H',T,L):=by
 obtain ⟨p,e⟩:=Iw h;unfold oZ n8 KY FL;simp only [e,Bool.false_eq_true,if_false,List.nil_append]
theorem MN(E:bc)(x:AV)(args:List AV)(H:List AObj):iC E .stop x args H=none:=by unfold iC;split<;>rfl
theorem MO(E:bc)(x:AV)(args:List AV)(H:List AObj):iC E .turn x args H=none:=by unfold iC;split<;>rfl
theorem am6 :
 (∀ (E:bc) (x:AV) (args:List AV) (H:List AObj),iC E .stop x args H=none)∧(∀ (E:bc) (x:AV) (args:List AV) (H:List AObj),iC E .turn x args H=none) ∧
 (∀ (E:bc) (g:FuncId) (first cap args:List AV) (H:List AObj) (T L:List Nat) (v:AV),oZ bT E .stop (.fn (.func g) first cap) args H T L (some (.ret v,H))=some (v,H,T,L)) ∧
 (∀ (E:bc) (g:FuncId) (first cap args:List AV) (H:List AObj) (T L:List Nat) (v:AV),oZ bT E .turn (.fn (.func g) first cap) args H T L (some (.ret v,H))=some (v,H,T,L)) ∧
 (∀ (E:bc) (x:AV) (args:List AV) (H:List AObj),iC E .last x args H=none) ∧
 (∀ (dec:Dec) (E:bc) (g:FuncId) (first cap args:List AV) (H:List AObj) (T L:List Nat) (v:AV) (H':List AObj),oZ dec E .last (.fn (.func g) first cap) args H T L (some (.ret v,H'))=some (v,H',T,L)):=
 ⟨MN,MO,fun _ _ _ _ _ _ _ _ _=>ON List.take_length _ _ _,fun _ _ _ _ _ _ _ _ _=>OO List.take_length _ _ _,fun _ _ _ _=>(by unfold iC;split<;>rfl),fun _ _ _ _ _ _ _ _ _ _ _=>rfl⟩
theorem MP(T:List Nat)(r:Option Out):se bT T [] r=r:=by
 unfold se;rw [Cu (fun x hx=>by cases hx)]
theorem Lc(L:List Nat)(r:Option Out):se bT [] L r=r:=by
 unfold se;rw [Cu (fun x _ hx=>by cases hx)]
theorem am5 :
 (∀ (s:Bool) (a:Env) (op:ROp) (T L:List Nat),nB s .pure a op T L=some (T,L)) ∧
 (∀ (a:Env) (op:ROp) (T L:List Nat),nB false .wide a op T L=some (T,L)) ∧
 (∀ (s:Bool) (a:Env) (op:ROp) (T L:List Nat),nB s .eff a op T L=some (T,L)) ∧
 (∀ (s:Bool) (a:Env) (cs:List AV) (e:TypeId) (T L:List Nat),nB s .keep a (.nw cs e) T L=some (T,L)) ∧
 (∀ (s:Bool) (a:Env) (e:TypeId) (x:RX) (T L:List Nat),nB s .keep a (.bx e x) T L=some (T,L)) ∧
 (∀ (E:bc) (x:AV) (args:List AV) (H:List AObj),iC E .eff x args H=none) ∧
 (∀ (E:bc) (x:AV) (args:List AV) (H:List AObj),iC E .keep x args H=none) ∧
 (∀ (E:bc) (x:AV) (args:List AV) (H:List AObj),iC E .quiet x args H=none) ∧
 (∀ (H:List AObj) (T L:List Nat) (r:Option Db),zN none H T L r=r) ∧
 (∀ (dec:Dec) (E:bc) (g:FuncId) (first cap args:List AV) (H:List AObj) (T L:List Nat) (v:AV) (H':List AObj),oZ dec E .eff (.fn (.func g) first cap) args H T L (some (.ret v,H'))=some (v,H',T,L)) ∧
 (∀ (E:bc) (g:FuncId) (first cap args:List AV) (H:List AObj) (T L:List Nat) (v:AV),oZ bT E .keep (.fn (.func g) first cap) args H T L (some (.ret v,H))=some (v,H,T,L)) ∧
 (∀ (T:List Nat) (r:Option Out),se bT T [] r=r) ∧
 (∀ (L:List Nat) (r:Option Out),se bT [] L r=r) ∧
 (E7 []=true)∧(∀ (s:List UInt8) (r:List (List AV)),E7 ([.str s]::r)=false)∧(∀ (a b:AV) (c:List AV) (r:List (List AV)),E7 ((a::b::c)::r)=false)∧(∀ (k:IntKind) (n:Int) (r:List (List AV)),E7 ([.int k n]::r)=true) ∧
 (∀ (i o:Nat) (r:List (List AV)),E7 ([.ptr i o]::r)=false)∧(∀ (t:Tag) (n:Nat) (x r:List (List AV)),E7 ([.slice t n x]::r)=false) ∧
 (∀ (α:Type) (x y:α),(if true=false then x else y)=y)∧(∀ (α:Type) (x y:α),(if false=false then x else y)=x):=
 ⟨ML,La,OK,Qr,Qs,OL,MM,Lb,dynW_none,Qt,OM,MP,Lc,rfl,fun _ _=>rfl,fun a _ _ _=>(by cases a<;>rfl),fun _ _ _=>rfl,fun _ _ _=>rfl,fun _ _ _ _=>rfl,fun _ _ _=>rfl,fun _ _ _=>rfl⟩
def UH(o:Option Nat)(T L:List Nat):Option (List Nat×List Nat):=
 match o with
 |some id=>some (id::T,L)
 |none=>some (T,L)
theorem amZ :
 (∀ (a:Env) (H:List AObj) (e:TypeId) (sz bytes:Nat) (z:List AV) (s n:RX),rop a H (.apz e sz bytes z s n)=PM H e sz bytes z (rx a s) (rx a n)) ∧
 (∀ (a:Env) (H:List AObj) (sz:Nat) (z:List AV) (x:RX),rop a H (.cl sz z x)=Ce (rcl H sz z (rx a x))) ∧
 (∀ (s:Bool) (a:Env) (m:Bool) (e:TypeId) (sz bytes:Nat) (str:Bool) (x y:RX) (T L:List Nat),nB s .keep a (.ap m e sz bytes str x y) T L=UH (mI (rx a x)) T L) ∧
 (∀ T L:List Nat,UH none T L=some (T,L))∧(∀ (id:Nat) (T L:List Nat),UH (some id) T L=some (id::T,L)) ∧
 (∀ (n:Nat) (r:List (List AV)),mI (.slice .nil n r)=none)∧(∀ (n:Nat) (r:List (List AV)),mI (.slice .any n r)=none)∧(∀ (n:Nat) (r:List (List AV)),mI (.slice .full n r)=none) ∧
 (∀ (t n:Nat) (r:List (List AV)),mI (.slice (.own t) n r)=some t)∧(∀ (id off len esz:Nat) (room:Bool),mI (.rslice id off len esz room)=some id):=
 ⟨fun _ _ _ _ _ _ _ _=>rfl,fun _ _ _ _ _=>rfl,fun _ _ _ _ _ _ _ _ _ _ _=>rfl,fun _ _=>rfl,fun _ _ _=>rfl,fun _ _=>rfl,fun _ _=>rfl,fun _ _=>rfl,fun _ _ _=>rfl,fun _ _ _ _ _=>rfl⟩
theorem setRow_nil(cs:List AV)(o:Nat):aU cs o []=cs:=by cases cs<;>rfl
theorem setRow_cons(cs:List AV)(o:Nat)(v:AV)(r:List AV):aU cs o (v::r)=aU (cs.set o v) (o+1) r:=by cases cs<;>rfl
end Go.Am
end
section
namespace Go.Am
structure WdE {E:bc} (M:cE bT E):Prop where
 wo:∀ f a H,E.wo f a H=none
 wide:∀ {g:FuncId}{args:List AV}{v:AV},(∀ H,M.run g args H=some (.ret v,H))→Cm E g args v
theorem WdE.of{E:bc}(M:cE bT E)(h:E.Ok)(hw:∀ f a H,E.wo f a H=none):WdE M:=⟨hw,fun hr H=>M.sound h (hr H)⟩
theorem Qu{E:bc}{M:cE bT E}(hW:WdE M)(g:FuncId)(first cap args:List AV)(H:List AObj):iC E .wide (.fn (.func g) first cap) args H=none:=by
 unfold iC FK;exact hW.wo _ _ _
theorem NQ{E:bc}{M:cE bT E}(hW:WdE M){g:FuncId}{first cap args:List AV}{v:AV}(h:∀ H,M.run g (first++args++cap) H=some (.ret v,H))(H:List AObj)(T L:List Nat) :
  oZ bT E .wide (.fn (.func g) first cap) args H T L (some (.ret v,H))=some (v,H,T,L):=by
 have:n8 bT E .wide g (first++args++cap) H v H=true:=by
  unfold n8;simp only [OG rfl (hW.wide h)];rfl
 unfold oZ;simp only [this,if_true]
end Go.Am
end
section
namespace Go.Am
open Go.RowKit
theorem SL{H0:List AObj}{es:List (AV×AV)}(hw:∀ e∈es,Wk H0.length e.1 e.1∧Wk H0.length e.2 e.2):Bg H0 (H0++[.map es]) (.map H0.length) (.vmap es):=by
 intro K K' w w' x hi hi' hk hv;have hx:(H0++[AObj.map es])[H0.length]?=some (.map es):=by simp
 have hcut:dP H0 (H0++[.map es]):=⟨by simp,fun i x hlt h=>.inl (by rwa [List.getElem?_append_left hlt] at h)⟩
 obtain ⟨hc1,hc2⟩:=hi.cut hi' hk hcut;have htake:(H0++[AObj.map es]).take H0.length=H0:=by simp
 rw [htake] at hc1 ⊢;cases hv with
 |map _ b hb=>
  obtain ⟨b2,mes,clock,h1,h2,h3,h4,h5,h6⟩:=hi'.obj _ _ hx;rw [hb] at h1;cases h1
  let K2:ak := { K'.trunc H0.length with shape:=fun b'=>if b'=b then some (.mapv mes) else K'.shape b' }
  have hle:(K'.trunc H0.length).le K2:=⟨fun _ _ _ h=>h,fun _ _ h=>h,fun _ _ h=>h,rfl,rfl,rfl,fun b' s h=>by
   show (if b'=b then _ else _)=_;have h':K'.shape b'=some s:=h;rw [if_neg (fun e=>by subst e;rw [h6] at h';cases h')];exact h',fun b' hb'=>⟨fun _=>rfl,if_neg (fun e=>hb' (by rw [e];exact h2))⟩⟩
  have hn:H0.length≤K'.loc.length:=by rw [hi'.len];simp
  refine ⟨K2,hc2.trans hle, ?_, ?_⟩
  ·refine .vmap es b mes (if_pos rfl) h4 (fun i k v he => ?_) (fun i k v he => ?_)
   ·obtain ⟨e,g1,g2,g3⟩:=h5 i k v he
    have:=(hw _ (List.mem_of_getElem? he)).1 K' e.key hn g2;rw [show mes.getD i ⟨undef,undef,0⟩=e by simp [Array.getD_eq_getD_getElem?,g1]];exact this.mono hle
   ·obtain ⟨e,g1,g2,g3⟩:=h5 i k v he
    have:=(hw _ (List.mem_of_getElem? he)).2 K' e.val hn g3;rw [show mes.getD i ⟨undef,undef,0⟩=e by simp [Array.getD_eq_getD_getElem?,g1]];exact this.mono hle
  ·refine ⟨hc1.below,hc1.base,hc1.imm,hc1.len,fun i y hy => ?_,hc1.inj,hc1.own,fun g cs hg=>(hc1.glob g cs hg).mono hle,fun b' s h => ?_⟩
   ·by_cases ly:y.live=true
    ·obtain ⟨by',hy1,_,_⟩:=hc1.live_block hy ly
     have hne2:by'≠b:=fun e=>by
      subst e;have hi0:i<H0.length:=(List.getElem?_eq_some_iff.1 hy).1;have hy':(H0++[AObj.map es])[i]?=some y:=by rw [List.getElem?_append_left hi0];exact hy
      have hl:K'.loc[i]?=some by':=by
       have:(K'.loc.take H0.length)[i]?=some by':=hy1
       rwa [List.getElem?_take_of_lt hi0] at this
      exact hi'.inj i H0.length y _ hy' hx ly rfl (by omega) (by rw [hl,hb])
     refine (hc1.obj i y hy).mono hle (fun _ _ _ _=>rfl) (fun b'' hb'' _=>⟨fun o h=>h,fun h=>h,fun h => ?_⟩);rw [hy1] at hb'';cases hb'';show (if _=b then _ else _)=_;rw [if_neg hne2];exact h
    ·cases y<;>first | exact absurd rfl ly | trivial
   ·have h':(if b'=b then some (.mapv mes) else K'.shape b')=some s:=h
    split at h'
    ·rename_i e;cases h';subst e;exact ⟨clock,h3⟩
    ·exact hc1.shape b' s h'
end Go.Am
end
section
namespace Go.Am
open Go.RowKit
theorem OP{H0 H:List AObj}{v v':AV}(e:St H0.length H v=v')(h:Bg H0 H v v'):nA bT .frz H0 H v=some (v',H.take H0.length):=by
 subst e;unfold nA;simp only [Qi h]
theorem HE{H0:List AObj}{es:List (AV×AV)}(hw:∀ e∈es,Wk H0.length e.1 e.1∧Wk H0.length e.2 e.2):nA bT .frz H0 (H0++[.map es]) (.map H0.length)=some (.vmap es,H0):=by
 rw [OP (by simp [St,Uq]) (SL hw)];simp
end Go.Am
end
section
namespace Go.Am
open Go.RowKit
theorem SM{H:List AObj}{es:List (AV×AV)}{kk:CK}{k v:AV}(h1:DV kk k=true)(h2:mH k es 0=some none):rmu (H++[.map es]) kk (.map H.length) k v=some (H++[.map (es++[(k,v)])]):=by
 unfold rmu Fy;simp [h1,h2]
end Go.Am
end
section
namespace Go.Am
open Go.RowKit
theorem Dd{a b:Nat}(h:Nat.blt a b=true):a<b:=by rwa [Nat.blt_eq] at h
mutual
def wkb(n:Nat):AV→Bool
 |.unk | .bool _ | .int _ _ | .str _ | .nilp | .nilmap | .nilfn | .nilif=>true
 |.ptr i _=>Nat.blt i n
 |.rslice i _ _ _ _=>Nat.blt i n
 |.map i=>Nat.blt i n
 |.vptr _ r _ _=>wkbR n r
 |.slice (.own t) _ r=>Nat.blt t n&&wkbR n r
 |.slice _ _ r=>wkbR n r
 |.vmap es=>wkbE n es
 |.sdp t r=>Nat.blt t n&&wkbR n r
 |.fn _ a b=>wkbL n a&&wkbL n b
 |.iface _ v=>wkb n v
 |.agg l=>wkbL n l
 |.tuple l=>wkbL n l
def wkbL(n:Nat):List AV→Bool
 |[]=>true
 |x::l=>wkb n x&&wkbL n l
def wkbR(n:Nat):List (List AV)→Bool
 |[]=>true
 |x::l=>wkbL n x&&wkbR n l
def wkbE(n:Nat):List (AV×AV)→Bool
 |[]=>true
 |x::l=>wkbP n x&&wkbE n l
def wkbP(n:Nat):AV×AV→Bool
 |(x,y)=>wkb n x&&wkb n y
end
theorem mK{n:Nat}:∀ {l:List AV}{i:Nat}{x:AV},wkbL n l=true→l[i]?=some x→wkb n x=true
 |[],_,_,_,h=>by simp at h
 |y::l,0,x,h,e=>by simp only [wkbL,Bool.and_eq_true] at h;simp at e;subst e;exact h.1
 |y::l,i+1,x,h,e=>by simp only [wkbL,Bool.and_eq_true] at h;simp at e;exact mK h.2 e
theorem Cw{n:Nat}:∀ {l:List (List AV)}{i:Nat}{x:List AV},wkbR n l=true→l[i]?=some x→wkbL n x=true
 |[],_,_,_,h=>by simp at h
 |y::l,0,x,h,e=>by simp only [wkbR,Bool.and_eq_true] at h;simp at e;subst e;exact h.1
 |y::l,i+1,x,h,e=>by simp only [wkbR,Bool.and_eq_true] at h;simp at e;exact Cw h.2 e
theorem ru{n:Nat}:∀ {l:List (AV×AV)}{i:Nat}{x y:AV},wkbE n l=true→l[i]?=some (x,y)→wkb n x=true∧wkb n y=true
 |[],_,_,_,_,h=>by simp at h
 |e0::l,0,x,y,h,e=>by simp only [wkbE,Bool.and_eq_true] at h;simp at e;subst e;simpa [wkbP] using h.1
 |e0::l,i+1,x,y,h,e=>by simp only [wkbE,Bool.and_eq_true] at h;simp at e;exact ru h.2 e
def Qv(n:Nat):AObj→Bool
 |.cells cs _=>wkbL n cs
 |.map es=>wkbE n es
 |_=>true
structure VLe (K K':ak):Prop where
 imm:∀ b o v,K.imm b o=some v→K'.imm b o=some v
 own:∀ b x,K.own b=some x→K'.own b=some x
 loc:∀ (i b:Nat),K.loc[i]?=some b→K'.loc[i]?=some b
 shape:∀ b s,K.shape b=some s→K'.shape b=some s
theorem VLe.lt{K K':ak}(h:VLe K K'){i:Nat}(hi:i<K.loc.length):i<K'.loc.length:=
 (List.getElem?_eq_some_iff.1 (h.loc i _ (List.getElem?_eq_getElem hi))).1
theorem V.vle{K K':ak}(h:VLe K K'){a:AV}{v:Value}(hv:V K a v):V K' a v:=by
 induction hv with
 |unk v=>exact .unk v
 |bool b=>exact .bool b
 |int k n=>exact .int k n
 |str s=>exact .str s
 |nilp=>exact .nilp
 |ptr id off b hb=>exact .ptr id off b (h.loc _ _ hb)
 |vptr esz rows i off b o vs hl hi hv ih=>exact .vptr esz rows i off b o vs hl (fun i j r av h1 h2=>h.imm _ _ _ (hi i j r av h1 h2)) ih
 |slice0 tag esz a ht=>exact .slice0 tag esz a ⟨fun t e=>⟨h.lt (ht.1 t e).1,(ht.1 t e).2⟩,ht.2⟩
 |sliceAny tag esz a cap h=>exact .sliceAny tag esz a cap h
 |slice tag esz rows b o cap vs hl hi hv hc ht ih=>
  refine .slice tag esz rows b o cap vs hl (fun i j r av h1 h2=>h.imm _ _ _ (hi i j r av h1 h2)) ih hc ?_;cases tag with
  |any=>trivial
  |some=>trivial
  |full=>exact ht
  |nil=>exact ht
  |own t=>exact ⟨h.lt ht.1,ht.2.imp id fun h2=>⟨h2.1,h.own _ _ h2.2⟩⟩
 |rslice id off len esz room b cap hb hc hs=>exact .rslice id off len esz room b cap (h.loc _ _ hb) hc (fun hr=>let ⟨n,h1,h2⟩:=hs hr;⟨n,h.shape _ _ h1,h2⟩)
 |vmap es b mes hb hl hk hv ih1 ih2=>exact .vmap es b mes (h.shape _ _ hb) hl ih1 ih2
 |nilmap=>exact .nilmap
 |map id b hb=>exact .map id b (h.loc _ _ hb)
 |sdp0 t p=>exact .sdp0 t p
 |sdp t rows b cap vs htl ho hl hi hv hc ih=>exact .sdp t rows b cap vs (h.lt htl) (h.own _ _ ho) hl (fun i j r av h1 h2=>h.imm _ _ _ (hi i j r av h1 h2)) ih hc
 |fn f first captured vs us h1 h2 hv hu ih1 ih2=>exact .fn f first captured vs us h1 h2 ih1 ih2
 |nilfn=>exact .nilfn
 |iface t v x hx ih=>exact .iface t v x ih
 |nilif=>exact .nilif
 |agg cs vs h1 hv ih=>exact .agg cs vs h1 ih
 |tuple cs vs h1 hv ih=>exact .tuple cs vs h1 ih
theorem xu{K:ak}{n b t m:Nat}(h:K.own b=some (t,m))(hlt:t<n):(K.trunc n).own b=some (t,m):=by
 simp [ak.trunc,h,hlt]
theorem Iy{K:ak}{n:Nat}(hn:n≤K.loc.length){a:AV}{v:Value}(hv:V K a v)(hw:wkb n a=true):V (K.trunc n) a v:=by
 have hlen:(K.trunc n).loc.length=n:=by simp [ak.trunc,Nat.min_eq_left hn]
 induction hv with
 |unk v=>exact .unk v
 |bool b=>exact .bool b
 |int k n=>exact .int k n
 |str s=>exact .str s
 |nilp=>exact .nilp
 |ptr id off b hb=>exact .ptr id off b (iy hb (Dd hw))
 |vptr esz rows i off b o vs hl hi hv ih=>exact .vptr esz rows i off b o vs hl (fun i j r av h1 h2=>hi i j r av h1 h2) fun i j r av h1 h2=>ih i j r av h1 h2 (mK (Cw hw h1) h2)
 |slice0 tag esz a ht=>
  refine .slice0 tag esz a ⟨fun t e=>⟨?_,(ht.1 t e).2⟩,ht.2⟩;subst e;simp only [wkb,Bool.and_eq_true] at hw;rw [hlen];exact Dd hw.1
 |sliceAny tag esz a cap h=>exact .sliceAny tag esz a cap h
 |slice tag esz rows b o cap vs hl hi hv hc ht ih=>
  have hr:wkbR n rows=true:=by cases tag<;>simp only [wkb,Bool.and_eq_true] at hw<;>first | exact hw.2 | exact hw
  refine .slice tag esz rows b o cap vs hl (fun i j r av h1 h2=>hi i j r av h1 h2) (fun i j r av h1 h2=>ih i j r av h1 h2 (mK (Cw hr h1) h2)) hc (zg ht fun t e => ?_);subst e;simp only [wkb,Bool.and_eq_true] at hw;exact Dd hw.1
 |rslice id off len esz room b cap hb hc hs=>exact .rslice id off len esz room b cap (iy hb (Dd hw)) hc hs
 |vmap es b mes hb hl hk hv ih1 ih2=>exact .vmap es b mes hb hl (fun i k v he=>ih1 i k v he (ru hw he).1) fun i k v he=>ih2 i k v he (ru hw he).2
 |nilmap=>exact .nilmap
 |map id b hb=>exact .map id b (iy hb (Dd hw))
 |sdp0 t p=>exact .sdp0 t p
 |sdp t rows b cap vs htl ho hl hi hv hc ih=>
  simp only [wkb,Bool.and_eq_true] at hw;have ht:=Dd hw.1;exact .sdp t rows b cap vs (by rw [hlen];exact ht) (xu ho ht) hl hi (fun i j r av h1 h2=>ih i j r av h1 h2 (mK (Cw hw.2 h1) h2)) hc
 |fn f first captured vs us h1 h2 hv hu ih1 ih2=>
  simp only [wkb,Bool.and_eq_true] at hw;exact .fn f first captured vs us h1 h2 (fun i av h=>ih1 i av h (mK hw.1 h)) fun i av h=>ih2 i av h (mK hw.2 h)
 |nilfn=>exact .nilfn
 |iface t v x hx ih=>exact .iface t v x (ih hw)
 |nilif=>exact .nilif
 |agg cs vs h1 hv ih=>exact .agg cs vs h1 fun i av h=>ih i av h (mK hw h)
 |tuple cs vs h1 hv ih=>exact .tuple cs vs h1 fun i av h=>ih i av h (mK hw h)
def Tag.fz:Tag→Tag
 |.nil=>.nil
 |_=>.any
def fzD:Nat→Nat→List AObj→AV→Option AV
 |0,_,_,_=>none
 |k+1,n,H,v=>
  match v with
  |.rslice id off len esz _=>bif Nat.blt id n then none else (match H[id]? with
    |some (.cells cs _)=>bif Nat.ble (off+len*esz) cs.length then (match da (da (fzD k n H)) (fI esz len (cs.drop off)) with
     |some rows=>some (.slice .any esz rows)
     |none=>none) else none
    |_=>none)
  |.map id=>bif Nat.blt id n then none else (match H[id]? with
    |some (.map es)=>bif wkbE n es then some (.vmap es) else none
    |_=>none)
  |.slice tag esz rows=>(match da (da (fzD k n H)) rows with
    |some rows=>some (.slice tag.fz esz rows)
    |none=>none)
  |.agg cs=>(match da (fzD k n H) cs with
    |some cs=>some (.agg cs)
    |none=>none)
  |.tuple cs=>(match da (fzD k n H) cs with
    |some cs=>some (.tuple cs)
    |none=>none)
  |v=>bif wkb n v then some v else none
def fzV(n:Nat)(H:List AObj)(v:AV):Option AV:=fzD 12 n H v
theorem Inv.live_own{K:ak}{H:List AObj}{w:World}(hi:Inv K H w){id b:Nat}{x:AObj}(hx:H[id]?=some x)(hl:x.live=true)(hb:K.loc[id]?=some b):K.own b=none:=by
 cases ho:K.own b with
 |none=>rfl
 |some p=>
  obtain ⟨_,fr,us,T,lo,hh,_,g2,_⟩:=hi.own b p.1 p.2 ho;have:=hi.obj id x hx;cases x with
  |dead=>cases hl
  |tok=>cases hl
  |cells cs T0=>
   obtain ⟨b2,vs,T2,h1,h2,h3,h4,h5,h6,h7,h8,h9⟩:=this;rw [hb] at h1;cases h1;rw [ho] at h7;cases h7
  |siter s p=>obtain ⟨b2,h1,h2,h3,_⟩:=this;rw [hb] at h1;cases h1;rw [g2] at h3;cases h3
  |map es=>obtain ⟨b2,me,cl,h1,h2,h3,_⟩:=this;rw [hb] at h1;cases h1;rw [g2] at h3;cases h3
def sY(w:World)(b:Nat):Option Shp:=
 match w.heap[b]? with
 |some (.cells vs _ _)=>some (.rows vs.size)
 |some (.map es _)=>some (.mapv es)
 |some o=>some (.fix o)
 |none=>none
theorem Cx{w:World}{b:Nat}{s:Shp}(h:sY w b=some s):H9 w b s:=by
 unfold sY at h;split at h
 ·rename_i vs T f hb;cases h;exact ⟨vs,T,f,hb,rfl⟩
 ·rename_i es c hb;cases h;exact ⟨c,hb⟩
 ·rename_i o n1 n2 hb;cases h;exact ⟨hb,by cases o<;>first | rfl | exact (n1 _ _ _ rfl).elim | exact (n2 _ _ rfl).elim⟩
 ·cases h
theorem F8{w:World}{b:Nat}{s:Shp}(h:H9 w b s):sY w b=some s:=by
 cases s with
 |rows n=>obtain ⟨vs,T,f,h1,h2⟩:=h;simp [sY,h1,h2]
 |mapv es=>obtain ⟨c,h1⟩:=h;simp [sY,h1]
 |fix o=>obtain ⟨h1,h2⟩:=h;cases o<;>first | (cases h2;done) | simp [sY,h1]
section
variable{P:Program}{G:Nat→Option (List AV)}
theorem Inv.unsee{K:ak}{H H':List AObj}{w:World}(hi:Inv K H w)(hl:H'.length=H.length)(hs:∀ (i:Nat) (x:AObj),H'[i]?=some x→x = .dead∨H[i]?=some x)
  (ht:∀ (t fr:Nat) (T:TypeId),H[t]?=some (.tok fr T)→H'[t]?=some (.tok fr T)):Inv K H' w:=by
 refine ⟨hi.below,hi.base,hi.imm,by rw [hi.len,hl],fun id x hx => ?_,fun i j x y hx hy lx ly hij => ?_,fun b t n ho => ?_,hi.glob,hi.shape⟩
 ·rcases hs id x hx with rfl | h
  ·trivial
  ·exact hi.obj id x h
 ·rcases hs i x hx with rfl | h1
  ·cases lx
  ·rcases hs j y hy with rfl | h2
   ·cases ly
   ·exact hi.inj i j x y h1 h2 lx ly hij
 ·obtain ⟨hb,fr,us,T,lo,hh,g1,g2⟩:=hi.own b t n ho
  exact ⟨hb,fr,us,T,lo,hh,ht t fr T g1,g2⟩
theorem cT.frame{He H1:List AObj}{f:FuncId}{args:List AV}{v0 v:AV}(h:cT P G f args He fun r H'=>r = .ret v0∧H'=H1)(hk1:H1.take He.length=He)
  (hG:∀ n g cs,G g=some cs→wkbL n cs=true) (ha:∀ a∈args,wkb He.length a=true) (hH:∀ x∈He,Qv He.length x=true) (hf:fzV He.length H1 v0=some v)
  (H2:List AObj) (hm2:He.length≤H2.length) (hag:∀ (i:Nat) (x:AObj),He[i]?=some x→x = .dead∨H2[i]?=some x)
  (htok:∀ (t fr:Nat) (T:TypeId),t<He.length→H2[t]?=some (.tok fr T)→He[t]?=some (.tok fr T)):cT P G f args H2 fun r H'=>r = .ret v∧H'=H2:=by
 classical
 intro K w cargs hg hi hv;generalize hm:He.length=m at *
 have hlen:m≤K.loc.length:=by rw [hi.len];exact hm2
 have hkill:Inv K (He++H2.drop m) w:=by
  refine hi.unsee (by simp [hm];omega) (fun i x hx => ?_) (fun t fr T ht => ?_)
  ·by_cases hlt:i<m
   ·rw [List.getElem?_append_left (by omega)] at hx;exact hag i x hx
   ·rw [List.getElem?_append_right (by omega),List.getElem?_drop,hm,Nat.add_sub_cancel' (by omega)] at hx;exact .inr hx
  ·by_cases hlt:t<m
   ·rw [List.getElem?_append_left (by omega)];exact htok t fr T hlt ht
   ·rw [List.getElem?_append_right (by omega),List.getElem?_drop,hm,Nat.add_sub_cancel' (by omega)];exact ht
 have htk:(He++H2.drop m).take m=He:=by rw [← hm];simp
 have hkl:∀ {i:Nat},i<m→(He++H2.drop m)[i]?=He[i]? := fun h=>List.getElem?_append_left (by omega)
 have hvis:∀ {i:Nat}{x:AObj},He[i]?=some x→x.live=true→H2[i]?=some x:=fun h hl=>by
  rcases hag _ _ h with rfl | h
  ·cases hl
  ·exact h
 let M2:Nat→Prop:=fun b=>w.heap.size≤b∨(∃ (i:Nat) (x:AObj),He[i]?=some x∧x.live=true∧K.loc[i]?=some b)∨∃ t n,K.own b=some (t,n)∧t<m
 have hlt_of:∀ {i:Nat}{x:AObj},He[i]?=some x→i<m:=fun h=>by have:=(List.getElem?_eq_some_iff.1 h).1;omega
 have hM:∀ b,M2 b→K.base b:=fun b hb=>by
  rcases hb with hb | ⟨i,x,h1,h2,h3⟩ | ⟨t,n,h1,_⟩
  ·exact hi.base b hb
  ·obtain ⟨b',h4,h5,_⟩:=hi.live_block (hvis h1 h2) h2
   rw [h3] at h4;cases h4;exact h5
  ·exact (hi.own b t n h1).1
 have hno:∀ {i b:Nat}{x:AObj},He[i]?≠some x→H2[i]?=some x→x.live=true→K.loc[i]?=some b→¬ M2 b:=fun {i b x} h1 h2 h3 h4 hb=>by
  rcases hb with hb | ⟨j,y,g1,g2,g3⟩ | ⟨t,n,g1,_⟩
  ·obtain ⟨b',h5,_,h6⟩:=hi.live_block h2 h3
   rw [h4] at h5;cases h5;omega
  ·have hj:=hvis g1 g2
   exact hi.inj i j x y h2 hj h3 g2 (fun e=>by subst e;rw [hj] at h2;cases h2;exact h1 g1) (h4.trans g3.symm)
  ·rw [hi.live_own h2 h3 h4] at g1;cases g1
 let K2:ak := { K.trunc m with base:=M2,w0:=w }
 have hv2:VLe (K.trunc m) K2:=⟨fun _ _ _ h=>h,fun _ _ h=>h,fun _ _ h=>h,fun _ _ h=>h⟩
 have hglw:∀ (g:Nat) (cs:List AV),K.glob g=some cs→wkb m (.vptr cs.length [cs] 0 0)=true:=fun g cs hgc=>by
  have:=hG m g cs (by rw [← hg];exact hgc);simp [wkb,wkbR,this]
 have hit:Inv (K.trunc m) He w:=by
  have:=hkill.trunc m (fun i cs T0 hlt hcs j av x hj hx=>by
   have h1:He[i]?=some (.cells cs T0):=(hkl hlt).symm.trans hcs;exact Iy hlen hx (mK (hH _ (List.mem_of_getElem? h1)) hj)) (fun i es hlt hes j x y z hj=>by
   have h1:He[i]?=some (.map es):=(hkl hlt).symm.trans hes;have h2:=ru (hH _ (List.mem_of_getElem? h1)) hj;exact ⟨fun hx=>Iy hlen hx h2.1,fun hy=>Iy hlen hy h2.2⟩)
   (fun g cs hgc=>Iy hlen (hi.glob g cs hgc) (hglw g cs hgc))
  rwa [htk] at this
 have hi2:Inv K2 He w:=by
  refine ⟨rn.refl _ _,fun b hb=>.inl hb,hit.imm,hit.len,fun id x hx => ?_,hit.inj,fun b t n ho => ?_,fun g cs hgc=>(hit.glob g cs hgc).vle hv2,hit.shape⟩
  ·have:=hit.obj id x hx
   have hMb:∀ b,x.live=true→(K.trunc m).loc[id]?=some b→M2 b:=fun b hl hb=>.inr (.inl ⟨id,x,hx,hl,by
    have h':(K.loc.take m)[id]?=some b:=hb;rwa [List.getElem?_take,if_pos (hlt_of hx)] at h'⟩)
   cases x with
   |dead=>trivial
   |tok=>trivial
   |cells cs T0=>
    obtain ⟨b,vs,T,h1,h2,h3,h4,h5,h6,h7,h8,h9⟩:=this;exact ⟨b,vs,T,h1,hMb b rfl h1,h3,h4,fun i av hh=>(h5 i av hh).vle hv2,h6,h7,h8,h9⟩
   |siter s p=>obtain ⟨b,h1,h2,h3⟩:=this;exact ⟨b,h1,hMb b rfl h1,h3⟩
   |map es=>
    obtain ⟨b,me,cl,h1,h2,h3,h4,h5,h6⟩:=this;exact ⟨b,me,cl,h1,hMb b rfl h1,h3,h4,fun i k v hh=>let ⟨e,g1,g2,g3⟩:=h5 i k v hh;⟨e,g1,g2.vle hv2,g3.vle hv2⟩,h6⟩
  ·obtain ⟨_,h2⟩:=hit.own b t n ho
   obtain ⟨h3,h4⟩:=ak.trunc_own ho;exact ⟨.inr (.inr ⟨t,n,h3,h4⟩),h2⟩
 have hargs:Vs K2 args cargs:=⟨hv.size,fun i av hh=>(Iy hlen (hv.at_ i av hh) (ha av (List.mem_of_getElem? hh))).vle hv2⟩
 have back:∀ e w',A8 K2 (fun r H'=>r = .ret v0∧H'=H1) e w'→A8 K (fun r H'=>r = .ret v∧H'=H2) e w':=by
  rintro e w' ⟨K3,r,H',hle,hend,hi3,rfl,rfl⟩;have hb3:K3.base=M2:=hle.base
  have hm3:m≤K3.loc.length:=by
   rw [hi3.len];have:=congrArg List.length hk1;simp at this;omega
  have hH1:∀ {i:Nat},i<m→H'[i]?=He[i]? := fun {i} hlt=>by rw [← hk1,List.getElem?_take,if_pos hlt]
  have hloc3:∀ {i b:Nat},i<m→K.loc[i]?=some b→K3.loc[i]?=some b:=fun {i b} hlt hb=>hle.loc i b (by
   show (K.loc.take m)[i]?=_;rw [List.getElem?_take,if_pos hlt];exact hb)
  have hloc3':∀ {i b:Nat},i<m→K3.loc[i]?=some b→K.loc[i]?=some b:=fun {i b} hlt hb=>by
   have h1:K.loc[i]?=some K.loc[i]:=List.getElem?_eq_getElem (by omega);rw [hloc3 hlt h1] at hb;rw [h1];exact hb
  let NB:Nat→Prop:=fun b => ∃ (id:Nat) (x:AObj),m≤id∧H'[id]?=some x∧x.live=true∧K3.loc[id]?=some b
  have hNM:∀ b,NB b→M2 b:=fun b ⟨id,x,h1,h2,h3,h4⟩=>by
   obtain ⟨b',h5,h6,_⟩:=hi3.live_block h2 h3;rw [h4] at h5;cases h5;rw [hb3] at h6;exact h6
  have hNO:∀ b,NB b→K3.own b=none:=fun b ⟨id,x,h1,h2,h3,h4⟩=>hi3.live_own h2 h3 h4
  have hNI:∀ {i b:Nat}{x:AObj},i<m→H'[i]?=some x→x.live=true→K3.loc[i]?=some b→¬ NB b:=fun {i b x} h1 h2 h3 h4 ⟨id,y,g1,g2,g3,g4⟩=>
   hi3.inj i id x y h2 g2 h3 g3 (by omega) (h4.trans g4.symm)
  let K4:ak := { imm:=fun b o=>if NB b then w'.cell? ⟨b,o,none⟩ else K3.imm b o,own:=fun b=>if M2 b then (K3.trunc m).own b else K.own b,loc:=K.loc,base:=K.base,w0:=K.w0,glob:=K.glob,shape:=fun b=>if NB b then sY w' b else K3.shape b }
  have imm4:∀ {b o:Nat},¬ NB b→K4.imm b o=K3.imm b o:=fun h=>if_neg h
  have hv4:VLe (K3.trunc m) K4:=by
   refine ⟨fun b o x hx => ?_,fun b x hx => ?_,fun i b hb => ?_,fun b s hs => ?_⟩
   ·have hx':K3.imm b o=some x:=hx
    show (if NB b then _ else _)=_;split
    ·exact hi3.imm b o x hx'
    ·exact hx'
   ·obtain ⟨t,n⟩:=x
    have h1:=(ak.trunc_own hx).1;have h2:=(hi3.own b t n h1).1;rw [hb3] at h2;show (if M2 b then _ else _)=_;rw [if_pos h2];exact hx
   ·have h':(K3.loc.take m)[i]?=some b:=hb
    rw [List.getElem?_take] at h';split at h'
    ·rename_i hlt;exact hloc3' hlt h'
    ·cases h'
   ·have hs':K3.shape b=some s:=hs
    show (if NB b then _ else _)=_;split
    ·exact F8 (hi3.shape b s hs')
    ·exact hs'
  have low4:∀ b,¬ M2 b→(∀ o,K4.imm b o=K.imm b o)∧K4.shape b=K.shape b:=fun b hb=>by
   have hnb:¬ NB b:=fun e=>hb (hNM b e)
   have:=hle.low b hb;exact ⟨fun o=>(if_neg hnb).trans (this.1 o),(if_neg hnb).trans this.2⟩
  have hle4:K.le K4:=by
   refine ⟨fun b o x hx=>hv4.imm b o x (hle.imm b o x hx),fun b x hx => ?_,fun _ _ h=>h,rfl,rfl,rfl,fun b s hs=>hv4.shape b s (hle.shape b s hs),fun b hb=>low4 b fun e=>hb (hM b e)⟩;obtain ⟨t,n⟩:=x;show (if M2 b then _ else _)=_;split
   ·rename_i hb
    have hlt:t<m:=by
     rcases hb with hb | ⟨i,x,h1,h2,h3⟩ | ⟨t',n',h1,h2⟩
     ·have:=hi.own_lt hx;omega
     ·rw [hi.live_own (hvis h1 h2) h2 h3] at hx;cases hx
     ·rw [hx] at h1;cases h1;exact h2
    exact xu (hle.own b _ (xu hx hlt)) hlt
   ·exact hx
  have vback:∀ {a:AV}{x:Value},V K3 a x→wkb m a=true→V K4 a x:=fun hx hw=>(Iy hm3 hx hw).vle hv4
  have hk3:rn M2 w w':=by
   have:=hi3.below;rw [hb3,hle.w0] at this;exact this
  have hi4:Inv K4 H2 w':=by
   refine ⟨hi.below.trans (hk3.mono hM),fun b hb=>hi.base b (Nat.le_trans hk3.size hb),fun b o x hx => ?_,hi.len,fun id x hx => ?_,hi.inj,fun b t n ho => ?_,fun g cs hgc=>(hi.glob g cs hgc).mono hle4,fun b s hs => ?_⟩
   ·have hx':(if NB b then w'.cell? ⟨b,o,none⟩ else K3.imm b o)=some x:=hx
    split at hx'
    ·exact hx'
    ·exact hi3.imm b o x hx'
   ·by_cases hx1:He[id]?=some x
    ·have hlt:=hlt_of hx1
     have hx3:H'[id]?=some x:=(hH1 hlt).trans hx1;have hcl:=hH x (List.mem_of_getElem? hx1);have:=hi3.obj id x hx3;have hMb:∀ b,K3.base b→M2 b:=fun b hb=>by rwa [hb3] at hb
     cases x with
     |dead=>trivial
     |tok=>trivial
     |cells cs T0=>
      obtain ⟨b,vs,T,h1,h2,h3,h4,h5,h6,h7,h8,h9⟩:=this;have hnb:=hNI hlt hx3 rfl h1;refine ⟨b,vs,T,hloc3' hlt h1,hM b (hMb b h2),h3,h4,fun i av hh=>vback (h5 i av hh) (mK hcl hh),fun o=>(imm4 hnb).trans (h6 o), ?_,(if_neg hnb).trans h8,h9⟩;show (if M2 b then _ else _)=_;rw [if_pos (hMb b h2)];simp [ak.trunc,h7]
     |siter s p=>obtain ⟨b,h1,h2,h3,h4⟩:=this;exact ⟨b,hloc3' hlt h1,hM b (hMb b h2),h3,(if_neg (hNI hlt hx3 rfl h1)).trans h4⟩
     |map es=>
      obtain ⟨b,me,cl,h1,h2,h3,h4,h5,h6⟩:=this;have hnb:=hNI hlt hx3 rfl h1;exact ⟨b,me,cl,hloc3' hlt h1,hM b (hMb b h2),h3,h4,fun i k v hh=>let ⟨e,g1,g2,g3⟩:=h5 i k v hh;⟨e,g1,vback g2 (ru hcl hh).1,vback g3 (ru hcl hh).2⟩,(if_neg hnb).trans h6⟩
    ·by_cases ly:x.live=true
     ·refine (hi.obj id x hx).mono hle4 (fun b hb _ _=>hk3.block b (hno hx1 hx ly hb)) (fun b hb _ => ?_)
      have hnm:=hno hx1 hx ly hb;have hl:=low4 b hnm;exact ⟨fun o h=>(hl.1 o).trans h,fun h=>(if_neg hnm).trans h,fun h=>hl.2.trans h⟩
     ·cases x<;>first | exact absurd rfl ly | trivial
   ·have ho':(if M2 b then (K3.trunc m).own b else K.own b)=some (t,n):=ho
    split at ho'
    ·rename_i hb
     obtain ⟨h1,h2⟩:=ak.trunc_own ho';obtain ⟨_,fr,us,T,lo,hh,g1,g2,g3,g4,g5⟩:=hi3.own b t n h1;have hnb:¬ NB b:=fun e=>by rw [hNO b e] at h1;cases h1
     exact ⟨hM b hb,fr,us,T,lo,hh,by
      rcases hag t _ ((hH1 h2).symm.trans g1) with h | h
      ·cases h
      ·exact h,g2,g3,g4,fun o x hx=>g5 o x (by rw [← imm4 hnb];exact hx)⟩
    ·rename_i hb
     obtain ⟨h0,fr,us,T,lo,hh,g1,g2,g3,g4,g5⟩:=hi.own b t n ho';exact ⟨h0,fr,us,T,lo,hh,g1,by rw [hk3.block b hb];exact g2,g3,g4,fun o x hx=>g5 o x (by rw [← (low4 b hb).1 o];exact hx)⟩
   ·have hs':(if NB b then sY w' b else K3.shape b)=some s:=hs
    split at hs'
    ·exact Cx hs'
    ·exact hi3.shape b s hs'
  have fzD_ok:∀ (k:Nat) {a a':AV}{x:Value},V K3 a x→fzD k m H' a=some a'→V K4 a' x:=by
   intro k;induction k with
   |zero=>intro a a' x _ he;cases he
   |succ k ih=>
   intro a a' x hx he
   have other:∀ {a'':AV},V K3 a x→(bif wkb m a then some a else none)=some a''→V K4 a'' x:=fun hx he=>by
    cases hw:wkb m a with
    |false=>rw [hw] at he;cases he
    |true=>rw [hw] at he;cases he;exact vback hx hw
   have two:∀ {rows rows':List (List AV)},da (da (fzD k m H')) rows=some rows'→rows'.length=rows.length∧(∀ (i:Nat) (r:List AV),rows'[i]?=some r→∃ r0,rows[i]?=some r0∧r.length=r0.length∧∀ (j:Nat) (av:AV),r[j]?=some av→∃ a0,r0[j]?=some a0∧fzD k m H' a0=some av):=fun h=>by
    obtain ⟨g1,g2⟩:=dV h;refine ⟨g1,fun i r hr => ?_⟩;obtain ⟨r0,e1,e2⟩:=g2 i r hr;obtain ⟨e3,e4⟩:=dV e2;exact ⟨r0,e1,e3,e4⟩
   cases hx with
   |rslice id off len esz room b cap hb hcap hro=>
    simp only [fzD] at he;cases hlt:Nat.blt id m with
    |true=>rw [hlt] at he;cases he
    |false=>
     rw [hlt,cond_false] at he
     have hge:m≤id:=by
      refine Nat.le_of_not_lt fun e => ?_
      rw [← Nat.blt_eq,hlt] at e;cases e
     split at he
     ·rename_i cs T0 hc
      cases hcnd:Nat.ble (off+len*esz) cs.length with
      |false=>rw [hcnd] at he;cases he
      |true=>
       rw [hcnd,cond_true] at he;have hsz:=Nat.le_of_ble_eq_true hcnd;split at he
       ·rename_i rows' hrows
        cases he;obtain ⟨t1,t2⟩:=two hrows;rw [lG] at t1;obtain ⟨b2,vs,T2,h1,h2,h3,h4,h5,h6,h7,h8,h9⟩:=hi3.obj _ _ hc;rw [hb] at h1;cases h1;have hnb:NB b:=⟨id,_,hge,hc,rfl,hb⟩
        have row:∀ (i j:Nat) (r:List AV) (av:AV),(fI esz len (cs.drop off))[i]?=some r→r[j]?=some av→i<len∧j<esz∧cs[off+i*esz+j]?=some av:=fun i j r av hr hj=>by
         obtain ⟨g1,rfl⟩:=kz esz len (cs.drop off) i r hr;rw [List.getElem?_take] at hj;split at hj
         ·rename_i hlt
          rw [List.getElem?_drop,List.getElem?_drop] at hj;exact ⟨g1,hlt,by rw [← hj];congr 1;omega⟩
         ·cases hj
        have:=V.slice (K:=K4) .any esz rows' b off cap (fun i j=>vs.getD (off+i*esz+j) undef) (fun r hr => ?_) (fun i j r av hr hj => ?_) (fun i j r av hr hj => ?_) (by rw [t1];exact hcap) trivial
        ·rwa [t1] at this
        ·obtain ⟨i,hi1⟩:=List.mem_iff_getElem?.1 hr
         obtain ⟨r0,e1,e2,_⟩:=t2 i r hi1;obtain ⟨g1,rfl⟩:=kz esz len (cs.drop off) i r0 e1
         have:i*esz+esz≤len*esz:=by rw [← Nat.succ_mul];exact Nat.mul_le_mul_right _ g1
         rw [e2];simp;omega
        ·obtain ⟨r0,e1,_,e3⟩:=t2 i r hr
         obtain ⟨a0,e4,e5⟩:=e3 j av hj;obtain ⟨g1,g2,g3⟩:=row i j r0 a0 e1 e4;have hlt:off+i*esz+j<vs.size:=Nat.lt_of_lt_of_le (List.getElem?_eq_some_iff.1 g3).1 h4;show (if NB b then _ else _)=_;rw [if_pos hnb,cu h3,Array.getElem?_eq_getElem hlt];simp [Array.getD,hlt]
        ·obtain ⟨r0,e1,_,e3⟩:=t2 i r hr
         obtain ⟨a0,e4,e5⟩:=e3 j av hj;obtain ⟨g1,g2,g3⟩:=row i j r0 a0 e1 e4;exact ih (h5 _ _ g3) e5
       ·cases he
     ·cases he
   |map id b hb=>
    simp only [fzD] at he;cases hlt:Nat.blt id m with
    |true=>rw [hlt] at he;cases he
    |false=>
     rw [hlt,cond_false] at he
     have hge:m≤id:=by
      refine Nat.le_of_not_lt fun e => ?_
      rw [← Nat.blt_eq,hlt] at e;cases e
     split at he
     ·rename_i es hc
      cases hw:wkbE m es with
      |false=>rw [hw] at he;cases he
      |true=>
       rw [hw] at he;cases he;obtain ⟨b2,mes,clock,h1,h2,h3,h4,h5,h6⟩:=hi3.obj _ _ hc;rw [hb] at h1;cases h1;have hnb:NB b:=⟨id,_,hge,hc,rfl,hb⟩
       refine .vmap es b mes ((if_pos hnb).trans (by simp [sY,h3])) h4 (fun i k v he => ?_) (fun i k v he => ?_)
       ·obtain ⟨e,g1,g2,g3⟩:=h5 i k v he
        rw [show mes.getD i ⟨undef,undef,0⟩=e by simp [Array.getD_eq_getD_getElem?,g1]];exact vback g2 (ru hw he).1
       ·obtain ⟨e,g1,g2,g3⟩:=h5 i k v he
        rw [show mes.getD i ⟨undef,undef,0⟩=e by simp [Array.getD_eq_getD_getElem?,g1]];exact vback g3 (ru hw he).2
     ·cases he
   |slice0 tag esz a h=>
    cases he;cases tag with
    |nil=>rw [h.2.1 rfl];exact .slice0 .nil esz none ⟨fun _ e=>(by cases e),fun _=>rfl,fun e=>(by cases e)⟩
    |some=>exact absurd rfl h.2.2
    |any=>exact .slice0 .any esz a ⟨fun _ e=>(by cases e),fun e=>(by cases e),fun e=>(by cases e)⟩
    |full=>exact .slice0 .any esz a ⟨fun _ e=>(by cases e),fun e=>(by cases e),fun e=>(by cases e)⟩
    |own t=>exact .slice0 .any esz a ⟨fun _ e=>(by cases e),fun e=>(by cases e),fun e=>(by cases e)⟩
   |sliceAny tag esz a cap h=>
    cases he
    have:tag.fz = .any:=by rcases h with rfl | ⟨rfl,_⟩<;>rfl
    rw [this];exact .sliceAny .any esz a cap (.inl rfl)
   |slice tag esz rows b o cap vs hl him hvv hc ht=>
    simp only [fzD] at he;split at he
    ·rename_i rows' hrows
     cases he;obtain ⟨t1,t2⟩:=two hrows;have htag:tag.fz = .any:=by cases tag<;>first | rfl | exact (ht:False).elim
     have:=V.slice (K:=K4) .any esz rows' b o cap vs (fun r hr => ?_) (fun i j r av hr hj => ?_) (fun i j r av hr hj => ?_) (by rw [t1];exact hc) trivial
     ·rw [htag];rwa [t1] at this
     ·obtain ⟨i,hi1⟩:=List.mem_iff_getElem?.1 hr
      obtain ⟨r0,e1,e2,_⟩:=t2 i r hi1;rw [e2];exact hl r0 (List.mem_of_getElem? e1)
     ·obtain ⟨r0,e1,_,e3⟩:=t2 i r hr
      obtain ⟨a0,e4,e5⟩:=e3 j av hj;exact hv4.imm _ _ _ (him i j r0 a0 e1 e4)
     ·obtain ⟨r0,e1,_,e3⟩:=t2 i r hr
      obtain ⟨a0,e4,e5⟩:=e3 j av hj;exact ih (hvv i j r0 a0 e1 e4) e5
    ·cases he
   |unk=>exact other (.unk _) he
   |bool b=>exact other (.bool b) he
   |int k n=>exact other (.int k n) he
   |str s=>exact other (.str s) he
   |nilp=>exact other .nilp he
   |ptr id off b hb=>exact other (.ptr id off b hb) he
   |vptr esz rows i off b o vs hl hi hv=>exact other (.vptr esz rows i off b o vs hl hi hv) he
   |vmap es b mes hb hl hk hv=>exact other (.vmap es b mes hb hl hk hv) he
   |nilmap=>exact other .nilmap he
   |sdp0 t p=>exact other (.sdp0 t p) he
   |sdp t rows b cap vs htl ho hl hi hv hc=>exact other (.sdp t rows b cap vs htl ho hl hi hv hc) he
   |fn f first captured vs us h1 h2 hv hu=>exact other (.fn f first captured vs us h1 h2 hv hu) he
   |nilfn=>exact other .nilfn he
   |iface t v x hx=>exact other (.iface t v x hx) he
   |nilif=>exact other .nilif he
   |agg cs vs h1 hv=>
    simp only [fzD] at he;split at he
    ·rename_i cs' hcs
     cases he;obtain ⟨g1,g2⟩:=dV hcs
     exact .agg _ _ (g1.trans h1) fun i av h=>by
      obtain ⟨a0,e1,e2⟩:=g2 i av h;exact ih (hv i a0 e1) e2
    ·cases he
   |tuple cs vs h1 hv=>
    simp only [fzD] at he;split at he
    ·rename_i cs' hcs
     cases he;obtain ⟨g1,g2⟩:=dV hcs
     exact .tuple _ _ (g1.trans h1) fun i av h=>by
      obtain ⟨a0,e1,e2⟩:=g2 i av h;exact ih (hv i a0 e1) e2
    ·cases he
  refine ⟨K4,.ret v,H2,hle4, ?_,hi4,rfl,rfl⟩;cases e with
  |panicked c=>exact hend.elim
  |outgrown=>exact hend.elim
  |returned x=>
   have hx:V K3 v0 x:=hend;show V K4 v x;exact fzD_ok 12 hx hf
 rcases h K2 w cargs hg hi2 hargs with ⟨h1,h2⟩ | ⟨cv,w',h1,h2⟩
 ·exact .inl ⟨h1,h2.mono back⟩
 ·exact .inr ⟨cv,w',h1,back _ _ h2⟩
end
end Go.Am
end
section
namespace Go.Am
open Go.RowKit
theorem v8{α β:Type}{f g:α→Option β}(h:∀ x y,f x=some y→g x=some y):∀ {l:List α}{l':List β},da f l=some l'→da g l=some l'
 |[],l',e=>e
 |x::l,l',e=>by
  simp only [da] at e ⊢;split at e
  ·rename_i a' l2 e1 e2
   cases e;rw [h _ _ e1,v8 h e2]
  ·cases e
theorem lH{α β:Type}{x y:Option α}{f:α→β}{r:β}(h:∀ a,x=some a→y=some a)(e:x.map f=some r):y.map f=some r:=by
 cases x with
 |none=>cases e
 |some a=>rw [h a rfl];exact e
theorem F9{f g:AV→Option AV}(h:∀ x y,f x=some y→g x=some y)(e:AV×AV)(r:AV×AV)(he:((f e.1).bind fun x=>(f e.2).map fun y=>(x,y))=some r):((g e.1).bind fun x=>(g e.2).map fun y=>(x,y))=some r:=by
 cases h1:f e.1 with
 |none=>rw [h1] at he;cases he
 |some x=>
  cases h2:f e.2 with
  |none=>rw [h1,h2] at he;cases he
  |some y=>rw [h1,h2] at he;rw [h _ _ h1,h _ _ h2];exact he
theorem Qw:∀ (k n:Nat) (H:List AObj) (v v':AV),fzF k n H v=some v'→fzF (k+1) n H v=some v':=by
 intro k;induction k with
 |zero=>intro n H v v' h;cases h
 |succ k ih=>
  intro n H v v' h;have h1:=fun x y=>ih n H x y
  have h2:∀ x y,da (fzF k n H) x=some y→da (fzF (k+1) n H) x=some y:=fun x y e=>v8 h1 e
  have h3:∀ x y,da (da (fzF k n H)) x=some y→da (da (fzF (k+1) n H)) x=some y:=fun x y e=>v8 h2 e
  rw [fzF.eq_def] at h ⊢;cases v<;>dsimp only at h ⊢
  case rslice id off len esz room=>
   cases hb:Nat.blt id n with
   |true=>rw [hb] at h;exact h
   |false=>
    rw [hb,cond_false] at h;rw [cond_false];split at h
    ·cases hc:Nat.ble _ _ with
     |false=>rw [hc] at h;cases h
     |true=>rw [hc,cond_true] at h;rw [cond_true];exact lH (fun a=>h3 _ a) h
    ·cases h
  case ptr id off=>
   cases hb:Nat.blt id n with
   |true=>rw [hb] at h;exact h
   |false=>
    rw [hb,cond_false] at h;rw [cond_false];split at h
    ·exact lH (fun a=>h2 _ a) h
    ·cases h
  case map id=>
   cases hb:Nat.blt id n with
   |true=>rw [hb] at h;exact h
   |false=>
    rw [hb,cond_false] at h;rw [cond_false];split at h
    ·exact lH (fun a=>v8 (F9 h1)) h
    ·cases h
  case slice=>exact lH (fun a=>h3 _ a) h
  case vptr=>exact lH (fun a=>h3 _ a) h
  case vmap=>exact lH (fun a=>v8 (F9 h1)) h
  case agg=>exact lH (fun a=>h2 _ a) h
  case tuple=>exact lH (fun a=>h2 _ a) h
  case iface=>exact lH (fun a=>h1 _ a) h
  case fn f a b=>
   cases e1:da (fzF k n H) a with
   |none=>rw [e1] at h;cases h
   |some x=>rw [e1] at h;rw [h2 _ _ e1];exact lH (fun a=>h2 _ a) h
  all_goals exact h
theorem Qy{k m n:Nat}{H:List AObj}{v v':AV}(hk:k≤m)(h:fzF k n H v=some v'):fzF m n H v=some v':=by
 induction hk with
 |refl=>exact h
 |step _ ih=>exact Qw _ _ _ _ _ ih
theorem Fz.uniq{n:Nat}{H:List AObj}{v a b:AV}(h1:Fz n H v a)(h2:Fz n H v b):a=b:=by
 obtain ⟨k,h1⟩:=h1;obtain ⟨m,h2⟩:=h2;have e1:=Qy (Nat.le_max_left k m) h1;have e2:=Qy (Nat.le_max_right k m) h2;rw [e1] at e2;cases e2;rfl
theorem OQ{H0 H:List AObj}{v v':AV}(h1:Fz H0.length H v v')(h2:Bg H0 H v v'):bT.deep H0 H v=some ⟨v',h2⟩:=by
 have h:∃ v',Fz H0.length H v v'∧Bg H0 H v v':=⟨v',h1,h2⟩
 have e:Classical.choose h=v':=Fz.uniq (Classical.choose_spec h).1 h1;have d:bT.deep H0 H v=some ⟨Classical.choose h,(Classical.choose_spec h).2⟩:=dif_pos h;rw [d];congr 1;exact Subtype.ext e
theorem dA{α β:Type}{x:Option α}{f:α→β}{r:β}(e:x.map f=some r):∃ a,x=some a∧f a=r:=by
 cases x with
 |none=>cases e
 |some a=>exact ⟨a,rfl,by injection e⟩
theorem mL{f:AV→Option AV}{e r:AV×AV}(he:((f e.1).bind fun x=>(f e.2).map fun y=>(x,y))=some r):f e.1=some r.1∧f e.2=some r.2:=by
 cases h1:f e.1 with
 |none=>rw [h1] at he;cases he
 |some x=>
  cases h2:f e.2 with
  |none=>rw [h1,h2] at he;cases he
  |some y=>rw [h1,h2] at he;cases he;exact ⟨rfl,rfl⟩
theorem VY{H0 H:List AObj}{v v':AV}(hcut:dP H0 H)(hz:Fz H0.length H v v'):Bg H0 H v v':=by
 classical
 intro K K' w w' x hi hi' hk hv;obtain ⟨fu,hz⟩:=hz;obtain ⟨hc1,hc2⟩:=hi.cut hi' hk hcut;generalize hn:H0.length=n at *
 have hnl:n≤K'.loc.length:=by rw [hi'.len];exact hn ▸ hcut.1
 let NB:Nat→Prop:=fun b => ∃ (id:Nat) (x:AObj),n≤id∧H[id]?=some x∧x.live=true∧K'.loc[id]?=some b
 have hNM:∀ b,NB b→K'.base b:=fun b ⟨id,x,h1,h2,h3,h4⟩=>by
  obtain ⟨b',h5,h6,_⟩:=hi'.live_block h2 h3;rw [h4] at h5;cases h5;exact h6
 have hNO:∀ b,NB b→K'.own b=none:=fun b ⟨id,x,h1,h2,h3,h4⟩=>hi'.live_own h2 h3 h4
 have hNI:∀ {i b:Nat}{x:AObj},i<n→H[i]?=some x→x.live=true→K'.loc[i]?=some b→¬ NB b:=fun {i b x} h1 h2 h3 h4 ⟨id,y,g1,g2,g3,g4⟩=>
  hi'.inj i id x y h2 g2 h3 g3 (by omega) (h4.trans g4.symm)
 let K2:ak := { K'.trunc n with imm:=fun b o=>if NB b then w'.cell? ⟨b,o,none⟩ else K'.imm b o,shape:=fun b=>if NB b then sY w' b else K'.shape b }
 have hle:(K'.trunc n).le K2:=by
  refine ⟨fun b o x hx => ?_,fun _ _ h=>h,fun _ _ h=>h,rfl,rfl,rfl,fun b s hs => ?_,fun b hb => ?_⟩
  ·have hx':K'.imm b o=some x:=hx
   show (if NB b then _ else _)=_;split
   ·exact hi'.imm b o x hx'
   ·exact hx'
  ·have hs':K'.shape b=some s:=hs
   show (if NB b then _ else _)=_;split
   ·exact F8 (hi'.shape b s hs')
   ·exact hs'
  ·have hnb:¬ NB b:=fun e=>hb (hNM b e)
   exact ⟨fun o=>if_neg hnb,if_neg hnb⟩
 refine ⟨K2,hc2.trans hle, ?_, ?_⟩
 ·
  have main:∀ (k:Nat) {a a':AV}{x:Value},V K' a x→fzF k n H a=some a'→V K2 a' x:=by
   intro k;induction k with
   |zero=>intro a a' x _ he;cases he
   |succ k ih=>
   intro a a' x hx he;have one:∀ {l l':List AV},da (fzF k n H) l=some l'→l'.length=l.length∧(∀ (j:Nat) (av:AV),l'[j]?=some av→∃ a0,l[j]?=some a0∧fzF k n H a0=some av):=fun h=>dV h
   have two:∀ {rows rows':List (List AV)},da (da (fzF k n H)) rows=some rows'→rows'.length=rows.length∧(∀ (i:Nat) (r:List AV),rows'[i]?=some r→∃ r0,rows[i]?=some r0∧r.length=r0.length∧∀ (j:Nat) (av:AV),r[j]?=some av→∃ a0,r0[j]?=some a0∧fzF k n H a0=some av):=fun h=>by
    obtain ⟨g1,g2⟩:=dV h;refine ⟨g1,fun i r hr => ?_⟩;obtain ⟨r0,e1,e2⟩:=g2 i r hr;obtain ⟨e3,e4⟩:=dV e2;exact ⟨r0,e1,e3,e4⟩
   rw [fzF.eq_def] at he;cases hx with
   |rslice id off len esz room b cap hb hcap hro=>
    dsimp only at he;cases hlt:Nat.blt id n with
    |true=>
     rw [hlt] at he;cases he;rw [Nat.blt_eq] at hlt;refine .rslice id off len esz room b cap (iy hb hlt) hcap fun hr => ?_
     obtain ⟨m,h1,h2⟩:=hro hr;exact ⟨m,hle.shape _ _ h1,h2⟩
    |false=>
     rw [hlt,cond_false] at he
     have hge:n≤id:=by
      refine Nat.le_of_not_lt fun e => ?_
      rw [← Nat.blt_eq,hlt] at e;cases e
     split at he
     ·rename_i cs T0 hc
      cases hcnd:Nat.ble (off+len*esz) cs.length with
      |false=>rw [hcnd] at he;cases he
      |true=>
       rw [hcnd,cond_true] at he;have hsz:=Nat.le_of_ble_eq_true hcnd;obtain ⟨rows',hrows,rfl⟩:=dA he;obtain ⟨t1,t2⟩:=two hrows;rw [lG] at t1;obtain ⟨b2,vs,T2,h1,h2,h3,h4,h5,h6,h7,h8,h9⟩:=hi'.obj _ _ hc;rw [hb] at h1;cases h1;have hnb:NB b:=⟨id,_,hge,hc,rfl,hb⟩
       have row:∀ (i j:Nat) (r:List AV) (av:AV),(fI esz len (cs.drop off))[i]?=some r→r[j]?=some av→i<len∧j<esz∧cs[off+i*esz+j]?=some av:=fun i j r av hr hj=>by
        obtain ⟨g1,rfl⟩:=kz esz len (cs.drop off) i r hr;rw [List.getElem?_take] at hj;split at hj
        ·rename_i hlt
         rw [List.getElem?_drop,List.getElem?_drop] at hj;exact ⟨g1,hlt,by rw [← hj];congr 1;omega⟩
        ·cases hj
       have:=V.slice (K:=K2) .any esz rows' b off cap (fun i j=>vs.getD (off+i*esz+j) undef) (fun r hr => ?_) (fun i j r av hr hj => ?_) (fun i j r av hr hj => ?_) (by rw [t1];exact hcap) trivial
       ·rwa [t1] at this
       ·obtain ⟨i,hi1⟩:=List.mem_iff_getElem?.1 hr
        obtain ⟨r0,e1,e2,_⟩:=t2 i r hi1;obtain ⟨g1,rfl⟩:=kz esz len (cs.drop off) i r0 e1
        have:i*esz+esz≤len*esz:=by rw [← Nat.succ_mul];exact Nat.mul_le_mul_right _ g1
        rw [e2];simp;omega
       ·obtain ⟨r0,e1,_,e3⟩:=t2 i r hr
        obtain ⟨a0,e4,e5⟩:=e3 j av hj;obtain ⟨g1,g2,g3⟩:=row i j r0 a0 e1 e4;have hlt:off+i*esz+j<vs.size:=Nat.lt_of_lt_of_le (List.getElem?_eq_some_iff.1 g3).1 h4;show (if NB b then _ else _)=_;rw [if_pos hnb,cu h3,Array.getElem?_eq_getElem hlt];simp [Array.getD,hlt]
       ·obtain ⟨r0,e1,_,e3⟩:=t2 i r hr
        obtain ⟨a0,e4,e5⟩:=e3 j av hj;obtain ⟨g1,g2,g3⟩:=row i j r0 a0 e1 e4;exact ih (h5 _ _ g3) e5
     ·cases he
   |ptr id off b hb=>
    dsimp only at he;cases hlt:Nat.blt id n with
    |true=>
     rw [hlt] at he;cases he;rw [Nat.blt_eq] at hlt;exact .ptr id off b (iy hb hlt)
    |false=>
     rw [hlt,cond_false] at he
     have hge:n≤id:=by
      refine Nat.le_of_not_lt fun e => ?_
      rw [← Nat.blt_eq,hlt] at e;cases e
     split at he
     ·rename_i cs T0 hc
      obtain ⟨cs',hcs,rfl⟩:=dA he;obtain ⟨t1,t2⟩:=one hcs;obtain ⟨b2,vs,T2,h1,h2,h3,h4,h5,h6,h7,h8,h9⟩:=hi'.obj _ _ hc;rw [hb] at h1;cases h1;have hnb:NB b:=⟨id,_,hge,hc,rfl,hb⟩
      have:=V.vptr (K:=K2) cs.length [cs'] 0 off b 0 (fun i j=>vs.getD j undef) (fun r hr => ?_) (fun i j r av hr hj => ?_) (fun i j r av hr hj => ?_)
      ·simpa using this
      ·rw [List.mem_singleton] at hr;rw [hr,t1]
      ·have:i=0:=by
        have:=(List.getElem?_eq_some_iff.1 hr).1;simp at this;exact this
       subst this;simp at hr;subst hr;obtain ⟨a0,e4,e5⟩:=t2 j av hj;have hlt:j<vs.size:=Nat.lt_of_lt_of_le (List.getElem?_eq_some_iff.1 e4).1 h4;show (if NB b then _ else _)=_;rw [if_pos hnb,cu h3,Nat.zero_mul,Nat.zero_add,Array.getElem?_eq_getElem hlt];simp [Array.getD,hlt]
      ·have:i=0:=by
        have:=(List.getElem?_eq_some_iff.1 hr).1;simp at this;exact this
       subst this;simp at hr;subst hr;obtain ⟨a0,e4,e5⟩:=t2 j av hj;exact ih (h5 _ _ e4) e5
     ·cases he
   |map id b hb=>
    dsimp only at he;cases hlt:Nat.blt id n with
    |true=>
     rw [hlt] at he;cases he;rw [Nat.blt_eq] at hlt;exact .map id b (iy hb hlt)
    |false=>
     rw [hlt,cond_false] at he
     have hge:n≤id:=by
      refine Nat.le_of_not_lt fun e => ?_
      rw [← Nat.blt_eq,hlt] at e;cases e
     split at he
     ·rename_i es hc
      obtain ⟨es',hes,rfl⟩:=dA he;obtain ⟨t1,t2⟩:=dV hes;obtain ⟨b2,mes,clock,h1,h2,h3,h4,h5,h6⟩:=hi'.obj _ _ hc;rw [hb] at h1;cases h1;have hnb:NB b:=⟨id,_,hge,hc,rfl,hb⟩
      refine .vmap es' b mes ((if_pos hnb).trans (by simp [sY,h3])) (t1.trans h4) (fun i k v he => ?_) (fun i k v he => ?_)
      ·obtain ⟨e0,g0,g0'⟩:=t2 i _ he
       obtain ⟨f1,f2⟩:=mL g0';obtain ⟨e,g1,g2,g3⟩:=h5 i e0.1 e0.2 g0;rw [show mes.getD i ⟨undef,undef,0⟩=e by simp [Array.getD_eq_getD_getElem?,g1]];exact ih g2 f1
      ·obtain ⟨e0,g0,g0'⟩:=t2 i _ he
       obtain ⟨f1,f2⟩:=mL g0';obtain ⟨e,g1,g2,g3⟩:=h5 i e0.1 e0.2 g0;rw [show mes.getD i ⟨undef,undef,0⟩=e by simp [Array.getD_eq_getD_getElem?,g1]];exact ih g3 f2
     ·cases he
   |vmap es b mes hb hl hk1 hv1=>
    dsimp only at he;obtain ⟨es',hes,rfl⟩:=dA he;obtain ⟨t1,t2⟩:=dV hes;refine .vmap es' b mes (hle.shape _ _ hb) (t1.trans hl) (fun i k v he => ?_) (fun i k v he => ?_)
    ·obtain ⟨e0,g0,g0'⟩:=t2 i _ he
     obtain ⟨f1,f2⟩:=mL g0';exact ih (hk1 i e0.1 e0.2 g0) f1
    ·obtain ⟨e0,g0,g0'⟩:=t2 i _ he
     obtain ⟨f1,f2⟩:=mL g0';exact ih (hv1 i e0.1 e0.2 g0) f2
   |slice0 tag esz a h=>
    cases he;cases tag with
    |nil=>rw [h.2.1 rfl];exact .slice0 .nil esz none ⟨fun _ e=>(by cases e),fun _=>rfl,fun e=>(by cases e)⟩
    |some=>exact absurd rfl h.2.2
    |any=>exact .slice0 .any esz a ⟨fun _ e=>(by cases e),fun e=>(by cases e),fun e=>(by cases e)⟩
    |full=>exact .slice0 .any esz a ⟨fun _ e=>(by cases e),fun e=>(by cases e),fun e=>(by cases e)⟩
    |own t=>exact .slice0 .any esz a ⟨fun _ e=>(by cases e),fun e=>(by cases e),fun e=>(by cases e)⟩
   |sliceAny tag esz a cap h=>
    cases he;rcases h with rfl | ⟨rfl,h⟩
    ·exact .sliceAny .any esz a cap (.inl rfl)
    ·exact .sliceAny .some esz a cap (.inr ⟨rfl,h⟩)
   |slice tag esz rows b o cap vs hl him hvv hc ht=>
    dsimp only at he;obtain ⟨rows',hrows,rfl⟩:=dA he;obtain ⟨t1,t2⟩:=two hrows;have htag:zd K2 tag.fzd b o esz rows' cap:=by cases tag<;>first | trivial | exact (ht:False).elim
    have:=V.slice (K:=K2) tag.fzd esz rows' b o cap vs (fun r hr => ?_) (fun i j r av hr hj => ?_) (fun i j r av hr hj => ?_) (by rw [t1];exact hc) htag
    ·rwa [t1] at this
    ·obtain ⟨i,hi1⟩:=List.mem_iff_getElem?.1 hr
     obtain ⟨r0,e1,e2,_⟩:=t2 i r hi1;rw [e2];exact hl r0 (List.mem_of_getElem? e1)
    ·obtain ⟨r0,e1,_,e3⟩:=t2 i r hr
     obtain ⟨a0,e4,e5⟩:=e3 j av hj;exact hle.imm _ _ _ (him i j r0 a0 e1 e4)
    ·obtain ⟨r0,e1,_,e3⟩:=t2 i r hr
     obtain ⟨a0,e4,e5⟩:=e3 j av hj;exact ih (hvv i j r0 a0 e1 e4) e5
   |vptr esz rows i off b o vs hl him hvv=>
    dsimp only at he;obtain ⟨rows',hrows,rfl⟩:=dA he;obtain ⟨t1,t2⟩:=two hrows;refine V.vptr (K:=K2) esz rows' i off b o vs (fun r hr => ?_) (fun i j r av hr hj => ?_) (fun i j r av hr hj => ?_)
    ·obtain ⟨i,hi1⟩:=List.mem_iff_getElem?.1 hr
     obtain ⟨r0,e1,e2,_⟩:=t2 i r hi1;rw [e2];exact hl r0 (List.mem_of_getElem? e1)
    ·obtain ⟨r0,e1,_,e3⟩:=t2 i r hr
     obtain ⟨a0,e4,e5⟩:=e3 j av hj;exact hle.imm _ _ _ (him i j r0 a0 e1 e4)
    ·obtain ⟨r0,e1,_,e3⟩:=t2 i r hr
     obtain ⟨a0,e4,e5⟩:=e3 j av hj;exact ih (hvv i j r0 a0 e1 e4) e5
   |unk=>cases he;exact .unk _
   |bool b=>cases he;exact .bool b
   |int k n=>cases he;exact .int k n
   |str s=>cases he;exact .str s
   |nilp=>cases he;exact .nilp
   |nilmap=>cases he;exact .nilmap
   |sdp0 t p=>cases he
   |sdp t rows b cap vs htl ho hl hi hv hc=>cases he
   |fn f first captured vs us h1 h2 hv hu=>
    dsimp only at he;cases e1:da (fzF k n H) first with
    |none=>rw [e1] at he;cases he
    |some a'=>
     rw [e1] at he;obtain ⟨b',e2,rfl⟩:=dA he;obtain ⟨t1,t2⟩:=dV e1;obtain ⟨t3,t4⟩:=dV e2;refine .fn f a' b' vs us (t1.trans h1) (t3.trans h2) (fun i av h => ?_) (fun i av h => ?_)
     ·obtain ⟨a0,e4,e5⟩:=t2 i av h
      exact ih (hv i a0 e4) e5
     ·obtain ⟨a0,e4,e5⟩:=t4 i av h
      exact ih (hu i a0 e4) e5
   |nilfn=>cases he;exact .nilfn
   |iface t v x hx=>
    dsimp only at he;obtain ⟨y,e1,rfl⟩:=dA he;exact .iface t y x (ih hx e1)
   |nilif=>cases he;exact .nilif
   |agg cs vs h1 hv=>
    dsimp only at he;obtain ⟨cs',e1,rfl⟩:=dA he;obtain ⟨g1,g2⟩:=dV e1
    exact .agg _ _ (g1.trans h1) fun i av h=>by
     obtain ⟨a0,e1,e2⟩:=g2 i av h;exact ih (hv i a0 e1) e2
   |tuple cs vs h1 hv=>
    dsimp only at he;obtain ⟨cs',e1,rfl⟩:=dA he;obtain ⟨g1,g2⟩:=dV e1
    exact .tuple _ _ (g1.trans h1) fun i av h=>by
     obtain ⟨a0,e1,e2⟩:=g2 i av h;exact ih (hv i a0 e1) e2
  exact main fu hv hz
 ·
  have hloc:∀ {i b:Nat},i<n→(K'.trunc n).loc[i]?=some b→K'.loc[i]?=some b:=fun {i b} hlt hb=>by
   have h':(K'.loc.take n)[i]?=some b:=hb;rwa [List.getElem?_take_of_lt hlt] at h'
  refine ⟨hc1.below,hc1.base,fun b o v h => ?_,hc1.len,fun i y hy => ?_,hc1.inj,fun b t m h => ?_,fun g cs hg=>(hc1.glob g cs hg).mono hle,fun b s h => ?_⟩
  ·have h':(if NB b then w'.cell? ⟨b,o,none⟩ else K'.imm b o)=some v:=h
   split at h'
   ·exact h'
   ·exact hi'.imm b o v h'
  ·have hlt:i<n:=by
    have:=(List.getElem?_eq_some_iff.1 hy).1;simp at this;omega
   have hy':H[i]?=some y:=by rwa [List.getElem?_take_of_lt hlt] at hy
   by_cases ly:y.live=true
   ·refine (hc1.obj i y hy).mono hle (fun _ _ _ _=>rfl) (fun b hb _ => ?_)
    have hnb:=hNI hlt hy' ly (hloc hlt hb);exact ⟨fun o h=>(if_neg hnb).trans h,fun h=>h,fun h=>(if_neg hnb).trans h⟩
   ·cases y<;>first | exact absurd rfl ly | trivial
  ·obtain ⟨g1,fr,us,T',lo,hh,g2,g3,g4,g5,g6⟩:=hc1.own b t m h
   obtain ⟨g7,_⟩:=ak.trunc_own h;have hnb:¬ NB b:=fun e=>by rw [hNO b e] at g7;cases g7
   exact ⟨g1,fr,us,T',lo,hh,g2,g3,g4,g5,fun o v hv=>g6 o v (by
    have h':(if NB b then w'.cell? ⟨b,o,none⟩ else K'.imm b o)=some v:=hv;rwa [if_neg hnb] at h')⟩
  ·have hs':(if NB b then sY w' b else K'.shape b)=some s:=h
   split at hs'
   ·exact Cx hs'
   ·exact hi'.shape b s hs'
theorem OR(n:Nat)(H:List AObj):(qo n H).length=H.length:=by
 simp [qo];omega
theorem Ld(n:Nat)(H:List AObj)(i:Nat):(qo n H)[i]?=if i<n then H[i]? else (H[i]?).map fun x=>if x.live then .dead else x:=by
 unfold qo
 by_cases hi:i<n
 ·rw [if_pos hi]
  by_cases hl:i<H.length
  ·rw [List.getElem?_append_left (by simp;omega),List.getElem?_take_of_lt hi]
  ·rw [List.getElem?_eq_none (by simp;omega),List.getElem?_eq_none (by omega)]
 ·rw [if_neg hi]
  by_cases hl:n≤H.length
  ·rw [List.getElem?_append_right (by simp;omega),List.length_take,Nat.min_eq_left hl,List.getElem?_map,List.getElem?_drop]
   congr 2;omega
  ·rw [List.getElem?_eq_none (by simp;omega),List.getElem?_eq_none (by omega)];rfl
theorem OS{n:Nat}{H:List AObj}{i:Nat}{y:AObj}(h:(qo n H)[i]?=some y):(i<n∧H[i]?=some y)∨(n≤i∧∃ x,H[i]?=some x∧y=if x.live then .dead else x):=by
 rw [Ld] at h;split at h
 ·rename_i hi;exact .inl ⟨hi,h⟩
 ·rename_i hi
  obtain ⟨x,h1,h2⟩:=dA h;exact .inr ⟨by omega,x,h1,h2.symm⟩
theorem OT{n:Nat}{H:List AObj}{t fr:Nat}{T:TypeId}(h:H[t]?=some (.tok fr T)):(qo n H)[t]?=some (.tok fr T):=by
 rw [Ld,h];split<;>rfl
theorem Qz{n:Nat}{H:List AObj}{v v':AV}(hz:Fz n H v v'):ND n H v v':=by
 classical
 intro K' w' x hi' hv;obtain ⟨fu,hz⟩:=hz
 let NB:Nat→Prop:=fun b => ∃ (id:Nat) (x:AObj),n≤id∧H[id]?=some x∧x.live=true∧K'.loc[id]?=some b
 have hNM:∀ b,NB b→K'.base b:=fun b ⟨id,x,h1,h2,h3,h4⟩=>by
  obtain ⟨b',h5,h6,_⟩:=hi'.live_block h2 h3;rw [h4] at h5;cases h5;exact h6
 have hNO:∀ b,NB b→K'.own b=none:=fun b ⟨id,x,h1,h2,h3,h4⟩=>hi'.live_own h2 h3 h4
 have hNI:∀ {i b:Nat}{x:AObj},i<n→H[i]?=some x→x.live=true→K'.loc[i]?=some b→¬ NB b:=fun {i b x} h1 h2 h3 h4 ⟨id,y,g1,g2,g3,g4⟩=>
  hi'.inj i id x y h2 g2 h3 g3 (by omega) (h4.trans g4.symm)
 let K2:ak := { K' with imm:=fun b o=>if NB b then w'.cell? ⟨b,o,none⟩ else K'.imm b o,shape:=fun b=>if NB b then sY w' b else K'.shape b }
 have hle:K'.le K2:=by
  refine ⟨fun b o x hx => ?_,fun _ _ h=>h,fun _ _ h=>h,rfl,rfl,rfl,fun b s hs => ?_,fun b hb => ?_⟩
  ·have hx':K'.imm b o=some x:=hx
   show (if NB b then _ else _)=_;split
   ·exact hi'.imm b o x hx'
   ·exact hx'
  ·have hs':K'.shape b=some s:=hs
   show (if NB b then _ else _)=_;split
   ·exact F8 (hi'.shape b s hs')
   ·exact hs'
  ·have hnb:¬ NB b:=fun e=>hb (hNM b e)
   exact ⟨fun o=>if_neg hnb,if_neg hnb⟩
 refine ⟨K2,hle, ?_, ?_⟩
 ·
  have main:∀ (k:Nat) {a a':AV}{x:Value},V K' a x→fzF k n H a=some a'→V K2 a' x:=by
   intro k;induction k with
   |zero=>intro a a' x _ he;cases he
   |succ k ih=>
   intro a a' x hx he;have one:∀ {l l':List AV},da (fzF k n H) l=some l'→l'.length=l.length∧(∀ (j:Nat) (av:AV),l'[j]?=some av→∃ a0,l[j]?=some a0∧fzF k n H a0=some av):=fun h=>dV h
   have two:∀ {rows rows':List (List AV)},da (da (fzF k n H)) rows=some rows'→rows'.length=rows.length∧(∀ (i:Nat) (r:List AV),rows'[i]?=some r→∃ r0,rows[i]?=some r0∧r.length=r0.length∧∀ (j:Nat) (av:AV),r[j]?=some av→∃ a0,r0[j]?=some a0∧fzF k n H a0=some av):=fun h=>by
    obtain ⟨g1,g2⟩:=dV h;refine ⟨g1,fun i r hr => ?_⟩;obtain ⟨r0,e1,e2⟩:=g2 i r hr;obtain ⟨e3,e4⟩:=dV e2;exact ⟨r0,e1,e3,e4⟩
   rw [fzF.eq_def] at he;cases hx with
   |rslice id off len esz room b cap hb hcap hro=>
    dsimp only at he;cases hlt:Nat.blt id n with
    |true=>
     rw [hlt] at he;cases he;rw [Nat.blt_eq] at hlt;refine .rslice id off len esz room b cap hb hcap fun hr => ?_
     obtain ⟨m,h1,h2⟩:=hro hr;exact ⟨m,hle.shape _ _ h1,h2⟩
    |false=>
     rw [hlt,cond_false] at he
     have hge:n≤id:=by
      refine Nat.le_of_not_lt fun e => ?_
      rw [← Nat.blt_eq,hlt] at e;cases e
     split at he
     ·rename_i cs T0 hc
      cases hcnd:Nat.ble (off+len*esz) cs.length with
      |false=>rw [hcnd] at he;cases he
      |true=>
       rw [hcnd,cond_true] at he;have hsz:=Nat.le_of_ble_eq_true hcnd;obtain ⟨rows',hrows,rfl⟩:=dA he;obtain ⟨t1,t2⟩:=two hrows;rw [lG] at t1;obtain ⟨b2,vs,T2,h1,h2,h3,h4,h5,h6,h7,h8,h9⟩:=hi'.obj _ _ hc;rw [hb] at h1;cases h1;have hnb:NB b:=⟨id,_,hge,hc,rfl,hb⟩
       have row:∀ (i j:Nat) (r:List AV) (av:AV),(fI esz len (cs.drop off))[i]?=some r→r[j]?=some av→i<len∧j<esz∧cs[off+i*esz+j]?=some av:=fun i j r av hr hj=>by
        obtain ⟨g1,rfl⟩:=kz esz len (cs.drop off) i r hr;rw [List.getElem?_take] at hj;split at hj
        ·rename_i hlt
         rw [List.getElem?_drop,List.getElem?_drop] at hj;exact ⟨g1,hlt,by rw [← hj];congr 1;omega⟩
        ·cases hj
       have:=V.slice (K:=K2) .any esz rows' b off cap (fun i j=>vs.getD (off+i*esz+j) undef) (fun r hr => ?_) (fun i j r av hr hj => ?_) (fun i j r av hr hj => ?_) (by rw [t1];exact hcap) trivial
       ·rwa [t1] at this
       ·obtain ⟨i,hi1⟩:=List.mem_iff_getElem?.1 hr
        obtain ⟨r0,e1,e2,_⟩:=t2 i r hi1;obtain ⟨g1,rfl⟩:=kz esz len (cs.drop off) i r0 e1
        have:i*esz+esz≤len*esz:=by rw [← Nat.succ_mul];exact Nat.mul_le_mul_right _ g1
        rw [e2];simp;omega
       ·obtain ⟨r0,e1,_,e3⟩:=t2 i r hr
        obtain ⟨a0,e4,e5⟩:=e3 j av hj;obtain ⟨g1,g2,g3⟩:=row i j r0 a0 e1 e4;have hlt:off+i*esz+j<vs.size:=Nat.lt_of_lt_of_le (List.getElem?_eq_some_iff.1 g3).1 h4;show (if NB b then _ else _)=_;rw [if_pos hnb,cu h3,Array.getElem?_eq_getElem hlt];simp [Array.getD,hlt]
       ·obtain ⟨r0,e1,_,e3⟩:=t2 i r hr
        obtain ⟨a0,e4,e5⟩:=e3 j av hj;obtain ⟨g1,g2,g3⟩:=row i j r0 a0 e1 e4;exact ih (h5 _ _ g3) e5
     ·cases he
   |ptr id off b hb=>
    dsimp only at he;cases hlt:Nat.blt id n with
    |true=>
     rw [hlt] at he;cases he;rw [Nat.blt_eq] at hlt;exact .ptr id off b hb
    |false=>
     rw [hlt,cond_false] at he
     have hge:n≤id:=by
      refine Nat.le_of_not_lt fun e => ?_
      rw [← Nat.blt_eq,hlt] at e;cases e
     split at he
     ·rename_i cs T0 hc
      obtain ⟨cs',hcs,rfl⟩:=dA he;obtain ⟨t1,t2⟩:=one hcs;obtain ⟨b2,vs,T2,h1,h2,h3,h4,h5,h6,h7,h8,h9⟩:=hi'.obj _ _ hc;rw [hb] at h1;cases h1;have hnb:NB b:=⟨id,_,hge,hc,rfl,hb⟩
      have:=V.vptr (K:=K2) cs.length [cs'] 0 off b 0 (fun i j=>vs.getD j undef) (fun r hr => ?_) (fun i j r av hr hj => ?_) (fun i j r av hr hj => ?_)
      ·simpa using this
      ·rw [List.mem_singleton] at hr;rw [hr,t1]
      ·have:i=0:=by
        have:=(List.getElem?_eq_some_iff.1 hr).1;simp at this;exact this
       subst this;simp at hr;subst hr;obtain ⟨a0,e4,e5⟩:=t2 j av hj;have hlt:j<vs.size:=Nat.lt_of_lt_of_le (List.getElem?_eq_some_iff.1 e4).1 h4;show (if NB b then _ else _)=_;rw [if_pos hnb,cu h3,Nat.zero_mul,Nat.zero_add,Array.getElem?_eq_getElem hlt];simp [Array.getD,hlt]
      ·have:i=0:=by
        have:=(List.getElem?_eq_some_iff.1 hr).1;simp at this;exact this
       subst this;simp at hr;subst hr;obtain ⟨a0,e4,e5⟩:=t2 j av hj;exact ih (h5 _ _ e4) e5
     ·cases he
   |map id b hb=>
    dsimp only at he;cases hlt:Nat.blt id n with
    |true=>
     rw [hlt] at he;cases he;rw [Nat.blt_eq] at hlt;exact .map id b hb
    |false=>
     rw [hlt,cond_false] at he
     have hge:n≤id:=by
      refine Nat.le_of_not_lt fun e => ?_
      rw [← Nat.blt_eq,hlt] at e;cases e
     split at he
     ·rename_i es hc
      obtain ⟨es',hes,rfl⟩:=dA he;obtain ⟨t1,t2⟩:=dV hes;obtain ⟨b2,mes,clock,h1,h2,h3,h4,h5,h6⟩:=hi'.obj _ _ hc;rw [hb] at h1;cases h1;have hnb:NB b:=⟨id,_,hge,hc,rfl,hb⟩
      refine .vmap es' b mes ((if_pos hnb).trans (by simp [sY,h3])) (t1.trans h4) (fun i k v he => ?_) (fun i k v he => ?_)
      ·obtain ⟨e0,g0,g0'⟩:=t2 i _ he
       obtain ⟨f1,f2⟩:=mL g0';obtain ⟨e,g1,g2,g3⟩:=h5 i e0.1 e0.2 g0;rw [show mes.getD i ⟨undef,undef,0⟩=e by simp [Array.getD_eq_getD_getElem?,g1]];exact ih g2 f1
      ·obtain ⟨e0,g0,g0'⟩:=t2 i _ he
       obtain ⟨f1,f2⟩:=mL g0';obtain ⟨e,g1,g2,g3⟩:=h5 i e0.1 e0.2 g0;rw [show mes.getD i ⟨undef,undef,0⟩=e by simp [Array.getD_eq_getD_getElem?,g1]];exact ih g3 f2
     ·cases he
   |vmap es b mes hb hl hk1 hv1=>
    dsimp only at he;obtain ⟨es',hes,rfl⟩:=dA he;obtain ⟨t1,t2⟩:=dV hes;refine .vmap es' b mes (hle.shape _ _ hb) (t1.trans hl) (fun i k v he => ?_) (fun i k v he => ?_)
    ·obtain ⟨e0,g0,g0'⟩:=t2 i _ he
     obtain ⟨f1,f2⟩:=mL g0';exact ih (hk1 i e0.1 e0.2 g0) f1
    ·obtain ⟨e0,g0,g0'⟩:=t2 i _ he
     obtain ⟨f1,f2⟩:=mL g0';exact ih (hv1 i e0.1 e0.2 g0) f2
   |slice0 tag esz a h=>
    cases he;cases tag with
    |nil=>rw [h.2.1 rfl];exact .slice0 .nil esz none ⟨fun _ e=>(by cases e),fun _=>rfl,fun e=>(by cases e)⟩
    |some=>exact absurd rfl h.2.2
    |any=>exact .slice0 .any esz a ⟨fun _ e=>(by cases e),fun e=>(by cases e),fun e=>(by cases e)⟩
    |full=>exact .slice0 .any esz a ⟨fun _ e=>(by cases e),fun e=>(by cases e),fun e=>(by cases e)⟩
    |own t=>exact .slice0 .any esz a ⟨fun _ e=>(by cases e),fun e=>(by cases e),fun e=>(by cases e)⟩
   |sliceAny tag esz a cap h=>
    cases he;rcases h with rfl | ⟨rfl,h⟩
    ·exact .sliceAny .any esz a cap (.inl rfl)
    ·exact .sliceAny .some esz a cap (.inr ⟨rfl,h⟩)
   |slice tag esz rows b o cap vs hl him hvv hc ht=>
    dsimp only at he;obtain ⟨rows',hrows,rfl⟩:=dA he;obtain ⟨t1,t2⟩:=two hrows;have htag:zd K2 tag.fzd b o esz rows' cap:=by cases tag<;>first | trivial | exact (ht:False).elim
    have:=V.slice (K:=K2) tag.fzd esz rows' b o cap vs (fun r hr => ?_) (fun i j r av hr hj => ?_) (fun i j r av hr hj => ?_) (by rw [t1];exact hc) htag
    ·rwa [t1] at this
    ·obtain ⟨i,hi1⟩:=List.mem_iff_getElem?.1 hr
     obtain ⟨r0,e1,e2,_⟩:=t2 i r hi1;rw [e2];exact hl r0 (List.mem_of_getElem? e1)
    ·obtain ⟨r0,e1,_,e3⟩:=t2 i r hr
     obtain ⟨a0,e4,e5⟩:=e3 j av hj;exact hle.imm _ _ _ (him i j r0 a0 e1 e4)
    ·obtain ⟨r0,e1,_,e3⟩:=t2 i r hr
     obtain ⟨a0,e4,e5⟩:=e3 j av hj;exact ih (hvv i j r0 a0 e1 e4) e5
   |vptr esz rows i off b o vs hl him hvv=>
    dsimp only at he;obtain ⟨rows',hrows,rfl⟩:=dA he;obtain ⟨t1,t2⟩:=two hrows;refine V.vptr (K:=K2) esz rows' i off b o vs (fun r hr => ?_) (fun i j r av hr hj => ?_) (fun i j r av hr hj => ?_)
    ·obtain ⟨i,hi1⟩:=List.mem_iff_getElem?.1 hr
     obtain ⟨r0,e1,e2,_⟩:=t2 i r hi1;rw [e2];exact hl r0 (List.mem_of_getElem? e1)
    ·obtain ⟨r0,e1,_,e3⟩:=t2 i r hr
     obtain ⟨a0,e4,e5⟩:=e3 j av hj;exact hle.imm _ _ _ (him i j r0 a0 e1 e4)
    ·obtain ⟨r0,e1,_,e3⟩:=t2 i r hr
     obtain ⟨a0,e4,e5⟩:=e3 j av hj;exact ih (hvv i j r0 a0 e1 e4) e5
   |unk=>cases he;exact .unk _
   |bool b=>cases he;exact .bool b
   |int k n=>cases he;exact .int k n
   |str s=>cases he;exact .str s
   |nilp=>cases he;exact .nilp
   |nilmap=>cases he;exact .nilmap
   |sdp0 t p=>cases he
   |sdp t rows b cap vs htl ho hl hi hv hc=>cases he
   |fn f first captured vs us h1 h2 hv hu=>
    dsimp only at he;cases e1:da (fzF k n H) first with
    |none=>rw [e1] at he;cases he
    |some a'=>
     rw [e1] at he;obtain ⟨b',e2,rfl⟩:=dA he;obtain ⟨t1,t2⟩:=dV e1;obtain ⟨t3,t4⟩:=dV e2;refine .fn f a' b' vs us (t1.trans h1) (t3.trans h2) (fun i av h => ?_) (fun i av h => ?_)
     ·obtain ⟨a0,e4,e5⟩:=t2 i av h
      exact ih (hv i a0 e4) e5
     ·obtain ⟨a0,e4,e5⟩:=t4 i av h
      exact ih (hu i a0 e4) e5
   |nilfn=>cases he;exact .nilfn
   |iface t v x hx=>
    dsimp only at he;obtain ⟨y,e1,rfl⟩:=dA he;exact .iface t y x (ih hx e1)
   |nilif=>cases he;exact .nilif
   |agg cs vs h1 hv=>
    dsimp only at he;obtain ⟨cs',e1,rfl⟩:=dA he;obtain ⟨g1,g2⟩:=dV e1
    exact .agg _ _ (g1.trans h1) fun i av h=>by
     obtain ⟨a0,e1,e2⟩:=g2 i av h;exact ih (hv i a0 e1) e2
   |tuple cs vs h1 hv=>
    dsimp only at he;obtain ⟨cs',e1,rfl⟩:=dA he;obtain ⟨g1,g2⟩:=dV e1
    exact .tuple _ _ (g1.trans h1) fun i av h=>by
     obtain ⟨a0,e1,e2⟩:=g2 i av h;exact ih (hv i a0 e1) e2
  exact main fu hv hz
 ·
  have nl:∀ (i:Nat) (y:AObj),(qo n H)[i]?=some y→y.live=true→i<n∧H[i]?=some y:=fun i y hy ly=>by
   rcases OS hy with h | ⟨_,x,_,rfl⟩
   ·exact h
   ·cases hx:x.live with
    |true=>rw [if_pos hx] at ly;cases ly
    |false=>rw [if_neg (by rw [hx];decide),hx] at ly;cases ly
  refine ⟨hi'.below,hi'.base,fun b o v h => ?_,by rw [OR];exact hi'.len,fun i y hy => ?_,fun i j y z hy hz ly lz hij=>hi'.inj i j y z (nl i y hy ly).2 (nl j z hz lz).2 ly lz hij,fun b t m h => ?_,fun g cs hg=>(hi'.glob g cs hg).mono hle,fun b s h => ?_⟩
  ·have h':(if NB b then w'.cell? ⟨b,o,none⟩ else K'.imm b o)=some v:=h
   split at h'
   ·exact h'
   ·exact hi'.imm b o v h'
  ·by_cases ly:y.live=true
   ·obtain ⟨hlt,hy'⟩:=nl i y hy ly
    refine (hi'.obj i y hy').mono hle (fun _ _ _ _=>rfl) (fun b hb _ => ?_);have hnb:=hNI hlt hy' ly hb;exact ⟨fun o h=>(if_neg hnb).trans h,fun h=>h,fun h=>(if_neg hnb).trans h⟩
   ·cases y<;>first | exact absurd rfl ly | trivial
  ·obtain ⟨g1,fr,us,T',lo,hh,g2,g3,g4,g5,g6⟩:=hi'.own b t m h
   have hnb:¬ NB b:=fun e=>by rw [hNO b e] at h;cases h
   exact ⟨g1,fr,us,T',lo,hh,OT g2,g3,g4,g5,fun o v hv=>g6 o v (by
    have h':(if NB b then w'.cell? ⟨b,o,none⟩ else K'.imm b o)=some v:=hv;rwa [if_neg hnb] at h')⟩
  ·have hs':(if NB b then sY w' b else K'.shape b)=some s:=h
   split at hs'
   ·exact Cx hs'
   ·exact hi'.shape b s hs'
theorem QA{n:Nat}{H:List AObj}{v v':AV}(h1:Fz n H v v'):bT.fzp n H v=some ⟨v',Qz h1⟩:=by
 have h:∃ v',Fz n H v v'∧ND n H v v':=⟨v',h1,Qz h1⟩
 have e:Classical.choose h=v':=Fz.uniq (Classical.choose_spec h).1 h1;have d:bT.fzp n H v=some ⟨Classical.choose h,(Classical.choose_spec h).2⟩:=dif_pos h;rw [d];congr 1;exact Subtype.ext e
theorem UI{n off t:Nat}{l:List Nat}{a:Env}{H:List AObj}{vs:List AV}(ht:dR a t = .ptr n off)(hl:vs.length=l.length)(hz:Fz n H (.tuple (l.map (dR a))) (.tuple vs)):fzR bT t l a H=some (yz .leaf l vs,qo n H):=by
 unfold fzR;rw [ht];simp only [QA hz];rw [if_pos hl]
theorem gQ{α β γ:Type}{f:β→Option γ}{g:α→β}{h:α→γ}:∀ {l:List α},(∀ x∈l,f (g x)=some (h x))→da f (l.map g)=some (l.map h)
 |[],_=>rfl
 |x::l,hx=>by
  simp only [List.map_cons,da,hx x (List.mem_cons_self),gQ (l:=l) fun y hy=>hx y (List.mem_cons_of_mem _ hy)]
theorem gb{α β:Type}(f:α→Option β):da f []=some []:=rfl
theorem aQ{α β:Type}{f:α→Option β}{x:α}{y:β}{l:List α}{l':List β}(h1:f x=some y)(h2:da f l=some l'):da f (x::l)=some (y::l'):=by
 simp only [da,h1,h2]
theorem Cy{k n:Nat}{H:List AObj}{t:Tag}{sz:Nat}{r r':List (List AV)}(h:da (da (fzF k n H)) r=some r'):fzF (k+1) n H (.slice t sz r)=some (.slice t.fzd sz r'):=by
 rw [fzF.eq_def];simp only [h,Option.map_some]
theorem Lg{k n:Nat}{H:List AObj}{r r':List AV}(h:da (fzF k n H) r=some r'):fzF (k+1) n H (.tuple r)=some (.tuple r'):=by
 rw [fzF.eq_def];simp only [h,Option.map_some]
theorem UJ{k n:Nat}{H:List AObj}{r r':List AV}(h:da (fzF k n H) r=some r'):fzF (k+1) n H (.agg r)=some (.agg r'):=by
 rw [fzF.eq_def];simp only [h,Option.map_some]
theorem UK{k n id off:Nat}{H:List AObj}{cs cs':List AV}{T:TypeId}(hid:n≤id)(hx:H[id]?=some (.cells cs T))(h:da (fzF k n H) cs=some cs'):fzF (k+1) n H (.ptr id off)=some (.vptr cs.length [cs'] 0 off):=by
 have:Nat.blt id n=false:=by
  cases e:Nat.blt id n with
  |false=>rfl
  |true=>rw [Nat.blt_eq] at e;omega
 rw [fzF.eq_def];simp only [this,cond_false,hx,h,Option.map_some]
theorem SN{k n id off:Nat}{H:List AObj}(hid:id<n):fzF (k+1) n H (.ptr id off)=some (.ptr id off):=by
 have:Nat.blt id n=true:=by rw [Nat.blt_eq];exact hid
 rw [fzF.eq_def];simp only [this,cond_true]
theorem Iz{k n id off len esz:Nat}{room:Bool}{H:List AObj}{cs:List AV}{rows:List (List AV)}{T:TypeId}(hid:n≤id)(hx:H[id]?=some (.cells cs T))(hs:off+len*esz≤cs.length)(h:da (da (fzF k n H)) (fI esz len (cs.drop off))=some rows):fzF (k+1) n H (.rslice id off len esz room)=some (.slice .any esz rows):=by
 have:Nat.blt id n=false:=by
  cases e:Nat.blt id n with
  |false=>rfl
  |true=>rw [Nat.blt_eq] at e;omega
 have h2:Nat.ble (off+len*esz) cs.length=true:=by rw [Nat.ble_eq];exact hs
 rw [fzF.eq_def];simp only [this,cond_false,hx,h2,cond_true,h,Option.map_some]
theorem Gb(k n:Nat)(H:List AObj)(t:IntKind)(b:Int):fzF (k+1) n H (.int t b)=some (.int t b):=rfl
theorem iD(k n:Nat)(H:List AObj)(b:List UInt8):fzF (k+1) n H (.str b)=some (.str b):=rfl
theorem xv{H0 H:List AObj}{v v':AV}(h1:dP H0 H)(h2:Fz H0.length H v v'):nA bT .deep H0 H v=some (v',H.take H0.length):=by
 unfold nA;simp only [OQ h2 (VY h1 h2)]
end Go.Am
end
section
namespace Go.Am
open Go.RowKit
end Go.Am
end
section
namespace Go.Am
open Go.RowKit
structure yA (P:Program) (f:FuncId) (e:Array Value→Sem Value):Prop where
 run:∀ (args:Array Value) (w:World),(callFunc f args).run P w=((e args).run P w).andThen fun v w'=>.ok (.value v) w'
theorem yA.of {P:Program}{f:FuncId}{fn:Func}{e:Array Value→Sem Value} (hf:P.funcs[f]?=some fn) (hname:(fn.name == "runtime.NumGoroutine")=false)
  (hb:fn.body.isNone=true) (hn:Extern.findNext fn=none) (he:Extern.find fn=some e):yA P f e:=⟨fun args w=>run_callFunc_extern hf hname hb hn he args w⟩
section
variable{P:Program}{G:Nat→Option (List AV)}{f:FuncId}{e:Array Value→Sem Value}
theorem yA.calls(h:yA P f e){args:List AV}{H:List AObj}{R:qh→List AObj→Prop}
  (hr:∀ (K:ak) (w:World) (cargs:Array Value),Inv K H w→Vs K args cargs→∃ cv w',(e cargs).run P w = .ok cv w'∧A8 K R (.returned cv) w'):cT P G f args H R:=fun K w cargs _ hi hv=>by
 obtain ⟨cv,w',h1,h2⟩:=hr K w cargs hi hv;exact .inr ⟨cv,w',by rw [h.run,h1];rfl,h2⟩
theorem OU(h:yA P f Extern.BytealgCount.count)(s:List UInt8)(c:Int)(H:List AObj) :
  cT P G f [.str s,.int .u8 c] H fun r H'=>r = .ret (.int .i64 (Lib.countByte s c.toNat.toUInt8:Nat))∧H'=H:=h.calls fun K w cargs hi hv=>by
 obtain ⟨x,y,rfl,hx,hy⟩:=vU hv;cases hx;cases hy;exact ⟨_,_,Lib.run_countString _ _ _,K,.ret (.int .i64 (Lib.countByte s c.toNat.toUInt8:Nat)),H,.refl K,V.int _ _,hi,rfl,rfl⟩
theorem OW(h:yA P f Extern.BytealgIndexByte.indexByte)(s:List UInt8)(c:Int)(H:List AObj) :
  cT P G f [.str s,.int .u8 c] H fun r H'=>r = .ret (.int .i64 (Lib.indexByte s c.toNat.toUInt8))∧H'=H:=h.calls fun K w cargs hi hv=>by
 obtain ⟨x,y,rfl,hx,hy⟩:=vU hv;cases hx;cases hy;exact ⟨_,_,Lib.run_indexByteString _ _ _,K,.ret (.int .i64 (Lib.indexByte s c.toNat.toUInt8)),H,.refl K,V.int _ _,hi,rfl,rfl⟩
theorem QB(h:yA P f Extern.AbiNoEscape.same)(v:AV)(H:List AObj):cT P G f [v] H fun r H'=>r = .ret v∧H'=H:=h.calls fun K w cargs hi hv=>by
 obtain ⟨x,rfl,hx⟩:=B9 hv;exact ⟨_,_,Lib.run_noEscape _ x,K,.ret v,H,.refl K,hx,hi,rfl,rfl⟩
theorem MQ{ps:Array TypeId}{t e:TypeId}(h:yA P f (Extern.BytealgMakeNoZero.makeNoZero ps #[t]))(ht:P.underlying t=some (.slice e))(n:Nat)(hn:n≤281474976710656)(H:List AObj) :
  cT P G f [.int .i64 n] H fun r H'=>r = .ret (.rslice H.length 0 n 1 true)∧H'=H++[.cells (List.replicate n .unk) e]:=h.calls fun K w cargs hi hv=>by
 obtain ⟨x,rfl,hx⟩:=B9 hv;cases hx;obtain ⟨cs,h1,h2,_⟩:=Lib.run_makeNoZero w ps t e ht n hn;have hi2:=hi.drew.drew
 have hal:=hi2.allocObj (.cells (List.replicate n .unk) e) (.cells cs e) rfl (some (.rows cs.size)) (fun s h=>by cases h;exact ⟨cs,e,(0,0),by rw [heap_alloc,if_pos rfl],rfl⟩) fun w' hw' g1 g2=>
  ⟨w.drew.drew.heap.size,cs,e,by simp [ak.pushS],hi2.new,hw',by simpa using h2,fun k av hk=>by
   have:=List.mem_replicate.1 (List.mem_of_getElem? hk);rw [this.2];exact .unk _,g1,g2,by simp [ak.pushS],rfl⟩
 refine ⟨_,_,h1,K.pushS w.drew.drew.heap.size (some (.rows cs.size)),.ret (.rslice H.length 0 n 1 true),_,K.le_pushS _ _ hi2.shape_base, ?_,hal,rfl,rfl⟩;exact V.rslice _ _ _ _ _ _ _ (by simp [ak.pushS,← hi.len]) h2 (fun _=>⟨cs.size,by simp [ak.pushS],by omega⟩)
end
def woK(E0:bc)(n:Nat)(f:FuncId)(args:List AV)(H:List AObj):Option (AV×List Nat):=
 bif wkbL 0 args then (match zI SB E0 n f args [] with
  |some (.ret v0,H1)=>match fzV 0 H1 v0 with
   |some v=>some (v,[])
   |none=>none
  |_=>none)
 else bif wkbL H.length args&&H.all (Qv H.length) then (match zI SB E0 n f args H with
  |some (.ret v0,H1)=>bif sd H H1 then (match fzV H.length H1 v0 with
   |some v=>some (v,List.range H.length)
   |none=>none) else none
  |_=>none)
 else none
theorem Gc{n:Nat}{l:List AV}(h:wkbL n l=true):∀ a∈l,wkb n a=true:=fun a ha=>by
 obtain ⟨i,hi⟩:=List.mem_iff_getElem?.1 ha;exact mK h hi
theorem OX{α:Type}{H H2:List α}(h:∀ i,i<H.length→H2[i]?=H[i]?):H.length≤H2.length:=by
 refine Nat.le_of_not_lt fun e => ?_
 have h1:=h H2.length e;rw [List.getElem?_eq_none (Nat.le_refl _),List.getElem?_eq_getElem e] at h1;cases h1
theorem QC{E0:bc}(h0:E0.Ok)(hG:∀ n g cs,E0.G g=some cs→wkbL n cs=true){n:Nat}{f:FuncId}{args:List AV}{H:List AObj}{v:AV}{L:List Nat}(h:woK E0 n f args H=some (v,L)) :
  ∀ H2:List AObj,(∀ id∈L,id<H.length→H2[id]?=H[id]?)→cT E0.P E0.G f args H2 fun r H'=>r = .ret v∧H'=H2:=by
 intro H2 hag;unfold woK at h;cases hw:wkbL 0 args with
 |true=>
  rw [hw,cond_true] at h;split at h
  ·rename_i v0 H1 hc
   split at h
   ·rename_i v' hf
    cases h;exact cT.frame (He:=[]) ((v7 h0 n).2 _ _ _ _ _ hc |>.mono fun r H' e=>e) (by simp) hG (Gc hw) (fun x hx=>by simp at hx) hf H2 (by simp) (fun i x hx=>by simp at hx) (fun t fr T ht=>by simp at ht)
   ·cases h
  ·cases h
 |false=>
  rw [hw,cond_false] at h;cases hw2:wkbL H.length args&&H.all (Qv H.length) with
  |false=>rw [hw2] at h;cases h
  |true=>
   rw [hw2,cond_true] at h;simp only [Bool.and_eq_true] at hw2;split at h
   ·rename_i v0 H1 hc
    cases hb:sd H H1 with
    |false=>rw [hb] at h;cases h
    |true=>
     rw [hb,cond_true] at h;split at h
     ·rename_i v' hf
      cases h;exact cT.frame ((v7 h0 n).2 _ _ _ _ _ hc |>.mono fun r H' e=>e) (tD hb) hG (Gc hw2.1) (fun x hx=>List.all_eq_true.1 hw2.2 x hx) hf H2 (OX fun i hi=>hag i (by simpa using hi) hi) (fun i x hx=>.inr ((hag i (by simpa using (List.getElem?_eq_some_iff.1 hx).1) (List.getElem?_eq_some_iff.1 hx).1).trans hx)) (fun t fr T hlt ht=>(hag t (by simpa using hlt) hlt).symm.trans ht)
     ·cases h
   ·cases h
def Gd:List AObj→List AObj→Bool
 |[],_=>true
 |.dead::_,.tok _ _::_=>false
 |.dead::l,_::m=>Gd l m
 |x::l,y::m=>AObj.eqb x y&&Gd l m
 |_,_=>false
theorem NR:∀ {H H2:List AObj},Gd H H2=true→H.length≤H2.length∧(∀ (i:Nat) (x:AObj),H[i]?=some x→x = .dead∨H2[i]?=some x) ∧
  (∀ (t fr:Nat) (T:TypeId),t<H.length→H2[t]?=some (.tok fr T)→H[t]?=some (.tok fr T))
 |[],_,_=>⟨by simp,fun i x h=>by simp at h,fun t fr T h=>by simp at h⟩
 |x::l,[],h=>by cases x<;>simp [Gd] at h
 |x::l,y::m,h=>by
  have key:(x = .dead∧∀ fr T,y≠.tok fr T)∨x=y:=by
   cases x<;>cases y<;>simp only [Gd,Bool.and_eq_true] at h<;>first | (cases h;done) | exact .inr (AObj.eqb_eq h.1) | exact .inl ⟨rfl,fun _ _ e=>by cases e⟩
  have hr:Gd l m=true:=by
   cases x<;>cases y<;>simp only [Gd,Bool.and_eq_true] at h<;>first | (cases h;done) | exact h.2 | exact h
  obtain ⟨h1,h2,h3⟩:=NR hr;refine ⟨by simpa using h1,fun i z hz => ?_,fun t fr T ht hz => ?_⟩
  ·cases i with
   |zero=>simp at hz;subst hz;rcases key with ⟨h,_⟩ | h
          ·exact .inl h
          ·exact .inr (by simp [h])
   |succ i=>simp at hz;simpa using h2 i z hz
  ·cases t with
   |zero=>simp at hz;subst hz;rcases key with ⟨_,h⟩ | h
          ·exact absurd rfl (h fr T)
          ·simp [h]
   |succ t=>simp at hz ht;simpa using h3 t fr T ht hz
def Lh(E0:bc)(n:Nat)(f:FuncId)(args:List AV)(H:List AObj):Option AV:=
 bif wkbL H.length args&&H.all (Qv H.length) then (match zI SB E0 n f args H with
  |some (.ret v0,H1)=>bif sd H H1 then fzV H.length H1 v0 else none
  |_=>none)
 else none
theorem Ge{E0:bc}(h0:E0.Ok)(hG:∀ n g cs,E0.G g=some cs→wkbL n cs=true){n:Nat}{f:FuncId}{args:List AV}{He:List AObj}{v:AV}
  (h:Lh E0 n f args He=some v) {H2:List AObj} (hb:Gd He H2=true):cT E0.P E0.G f args H2 fun r H'=>r = .ret v∧H'=H2:=by
 unfold Lh at h;cases hw2:wkbL He.length args&&He.all (Qv He.length) with
 |false=>rw [hw2] at h;cases h
 |true=>
  rw [hw2,cond_true] at h;simp only [Bool.and_eq_true] at hw2;split at h
  ·rename_i v0 H1 hc
   cases hb2:sd He H1 with
   |false=>rw [hb2] at h;cases h
   |true=>
    rw [hb2,cond_true] at h;obtain ⟨h1,h2,h3⟩:=NR hb;exact cT.frame ((v7 h0 n).2 _ _ _ _ _ hc |>.mono fun r H' e=>e) (tD hb2) hG (Gc hw2.1) (fun x hx=>List.all_eq_true.1 hw2.2 x hx) h H2 h1 h2 h3
  ·cases h
end Go.Am
end
section
namespace Go.Am
def cg(P:Program)(G:Nat→Option (List AV))(f:FuncId)(af:AFn):Prop:=NC P G af.muts f=some (af.c.strip,af.n,af.res,af.dfr.map fun x=>(x.1,x.2.1,x.2.2.strip))
def AFn.k(a:AFn):AFn:=⟨a.c.strip,a.n,a.res,.keep,a.muts,none⟩
def JG(P:Program)(G:Nat→Option (List AV))(f:FuncId)(x:Nat×AFn):Prop:=Io P G f=some (x.1,x.2.c.strip,x.2.n,x.2.res,x.2.muts)∧x.2.dfr=none
theorem QD{α:Type}{C:Nat→α→Prop}{f k:Nat}{a af:α}(hc:C k a)(h:(bif Nat.beq f k then some a else none)=some af):C f af:=by
 cases hb:Nat.beq f k with
 |false=>rw [hb] at h;cases h
 |true=>rw [hb] at h;cases h;rw [Nat.eq_of_beq_eq_true hb];exact hc
def SO{α:Type}:List (Nat×α)→Nat→Option α
 |[],_=>none
 |p::l,f=>bif Nat.beq f p.1 then some p.2 else SO l f
def Li{α:Type}:List (Nat×List (Nat×α))→Nat→Option α
 |[],_=>none
 |p::l,f=>bif Nat.ble f p.1 then SO p.2 f else Li l f
def jY{α:Type}(C:Nat→α→Prop):List (Nat×α)→Prop
 |[]=>True
 |p::l=>C p.1 p.2∧jY C l
def JH{α:Type}(C:Nat→α→Prop):List (Nat×List (Nat×α))→Prop
 |[]=>True
 |p::l=>jY C p.2∧JH C l
theorem NS{α:Type}{C:Nat→α→Prop}{f:Nat}{a:α}:∀ {l:List (Nat×α)},jY C l→SO l f=some a→C f a
 |[],_,h=>by cases h
 |p::l,h,e=>by
  unfold SO at e;cases hb:Nat.beq f p.1 with
  |true=>rw [hb] at e;cases e;rw [Nat.eq_of_beq_eq_true hb];exact h.1
  |false=>rw [hb] at e;exact NS h.2 e
theorem Gf{α:Type}{C:Nat→α→Prop}{f:Nat}{a:α}:∀ {l:List (Nat×List (Nat×α))},JH C l→Li l f=some a→C f a
 |[],_,h=>by cases h
 |p::l,h,e=>by
  unfold Li at e;cases hb:Nat.ble f p.1 with
  |true=>rw [hb] at e;exact NS h.1 e
  |false=>rw [hb] at e;exact Gf h.2 e
end Go.Am
end
section
namespace Go.Am
structure RPc where
 f:FuncId
 args:List AV
 heap:List AObj
 v:AV
def dd(n:Nat)(l:List AObj):List AObj:=List.replicate n .dead++l
def NT(f:FuncId)(args:List AV)(H:List AObj):List RPc→Option AV
 |[]=>none
 |p::ps=>bif Nat.beq f p.f&&AV.eqbL args p.args&&Gd p.heap H then some p.v else NT f args H ps
def pin(f:FuncId):List RPc→Bool
 |[]=>false
 |p::ps=>bif Nat.beq f p.f then true else pin f ps
def RPc.Ok(P:Program)(G:Nat→Option (List AV))(p:RPc):Prop:=∀ H2,Gd p.heap H2=true→cT P G p.f p.args H2 fun r H'=>r = .ret p.v∧H'=H2
def VZ(E0:bc):bc := { E0 with wo:=woK E0 100000 }
def UL(E0:bc)(ps:List RPc)(f:FuncId)(args:List AV)(H:List AObj):Option Out:=
 match NT f args H ps with
 |some v=>some (.ret v,H)
 |none=>bif pin f ps then zI SB (VZ E0) 100000 f args H else E0.orc f args H
def EPo(E0:bc)(ps:List RPc):bc := { E0 with fn:=fun f=>bif pin f ps then none else E0.fn f,orc:=UL E0 ps }
def EP(E0:bc)(ps:List RPc):bc := { EPo E0 ps with wo:=woK (EPo E0 ps) 100000 }
theorem Lj{P:Program}{G:Nat→Option (List AV)}{f:FuncId}{args:List AV}{H:List AObj}{v:AV}:∀ {ps:List RPc},(∀ p∈ps,p.Ok P G)→NT f args H ps=some v→cT P G f args H fun r H'=>r = .ret v∧H'=H
 |[],_,h=>by cases h
 |p::ps,hp,h=>by
  unfold NT at h;cases hb:(Nat.beq f p.f&&AV.eqbL args p.args&&Gd p.heap H) with
  |true=>
   rw [hb] at h;cases h;simp only [Bool.and_eq_true] at hb;rw [Nat.eq_of_beq_eq_true hb.1.1,AV.eqbL_eq hb.1.2];exact hp p (by simp) H hb.2
  |false=>rw [hb] at h;exact Lj (fun q hq=>hp q (by simp [hq])) h
section
variable{E0:bc}(h0:E0.Ok)(hG:∀ n g cs,E0.G g=some cs→wkbL n cs=true)
include h0 hG in
theorem SP:(VZ E0).Ok:=⟨h0.mixed,h0.fn,h0.dfn,fun _ _ _ _ _ h=>QC h0 hG h,h0.orc,h0.meth,h0.seq⟩
include h0 hG in
theorem UM{ps:List RPc}(hp:∀ p∈ps,p.Ok E0.P E0.G)(hw:∀ f args H,E0.wo f args H=none):(EPo E0 ps).Ok:=⟨h0.mixed,fun f af h=>by
  have h':(bif pin f ps then none else E0.fn f)=some af:=h;cases hb:pin f ps with
  |true=>rw [hb] at h';cases h'
  |false=>rw [hb] at h';exact h0.fn f af h',h0.dfn,(fun f args H v L h=>by
  have h':E0.wo f args H=some (v,L):=h;rw [hw] at h';cases h'),fun f args H r H' h=>by
  have h':UL E0 ps f args H=some (r,H'):=h;unfold UL at h';split at h'
  ·rename_i v hv
   cases h';exact Lj hp hv
  ·cases hb:pin f ps with
   |true=>
    rw [hb] at h';exact ((v7 (SP h0 hG) 100000).2 _ _ _ _ _ h').mono fun r H' e=>e
   |false=>rw [hb] at h';exact h0.orc _ _ _ _ _ h',h0.meth,h0.seq⟩
include h0 hG in
theorem T1{ps:List RPc}(hp:∀ p∈ps,p.Ok E0.P E0.G)(hw:∀ f args H,E0.wo f args H=none):(EP E0 ps).Ok:=
 have h:=UM h0 hG hp hw
 ⟨h.mixed,h.fn,h.dfn,fun _ _ _ _ _ e=>QC h hG e,h.orc,h.meth,h.seq⟩
include h0 hG in
theorem zQ{ps:List RPc}(hp:∀ p∈ps,p.Ok E0.P E0.G)(hw:∀ f args H,E0.wo f args H=none){p:RPc}(h:Lh (EP E0 ps) 100000 p.f p.args p.heap=some p.v):∀ q∈p::ps,q.Ok E0.P E0.G:=fun q hq=>by
 rcases List.mem_cons.1 hq with rfl | hq
 ·exact fun H2 hs=>Ge (T1 h0 hG hp hw) hG h hs
 ·exact hp q hq
end
end Go.Am
end
section
namespace Go.Am
open Go.RowKit Go.ChangeShapes
def ak.start(W:World)(G:Nat→Option (List AV)):ak:=
 {imm:=fun b o=>W.cell? ⟨b,o,none⟩,own:=fun _=>none,loc:=[],base:=fun b=>W.heap.size≤b,w0:=W,glob:=G,shape:=sY W }
theorem Inv.start(W:World)(G:Nat→Option (List AV))(hG:∀ (g:Nat) (cs:List AV),G g=some cs→V (ak.start W G) (.vptr cs.length [cs] 0 0) (.pointer (some ⟨g,0,none⟩))):Inv (ak.start W G) [] W:=
 ⟨rn.refl _ _,fun _ h=>h,fun _ _ _ h=>h,rfl,(fun id x h=>by simp at h),(fun i j x y h=>by simp at h),(fun b t n h=>by cases h),hG,fun b s h=>Cx h⟩
section
variable{P:Program}
theorem OY{G:Nat→Option (List AV)}{f:FuncId}{args:List AV}{W:World}{cargs:Array Value}(h:cT P G f args [] fun r H'=>r = .ret (.bool true)∧H'=[])
  (hG:∀ (g:Nat) (cs:List AV),G g=some cs→V (ak.start W G) (.vptr cs.length [cs] 0 0) (.pointer (some ⟨g,0,none⟩)))
  (hb:(callFunc f cargs).run P W = .ok (.enter f cargs) W) (hv:Vs (ak.start W G) args cargs):Calls P f cargs W fun e w'=>e = .returned (.bool true)∧Below W.heap.size W w':=by
 rcases h (ak.start W G) W cargs rfl (Inv.start W G hG) hv with ⟨_,h2⟩ | ⟨cv,w',h1,_⟩
 ·refine h2.mono ?_
  rintro e w' ⟨K',r,H',hk,he,hi,rfl,rfl⟩;have hkept:=hi.below;rw [hk.base,hk.w0] at hkept;refine ⟨?_,hkept.below fun b hb=>hb⟩;cases e with
  |panicked c=>exact he.elim
  |outgrown=>exact he.elim
  |returned x=>
   have hx:V K' (.bool true) x:=he;cases hx;rfl
 ·rw [hb] at h1;cases h1
theorem Bi{H:Type}{enc:TypeId×Value→H}(hl:laidOutB P=true){W W':World}(hb:Below W.heap.size W W'):∀ (ts:List TypeId) (vs:List Value) (ds:List (DataW H)) (ps:List MemPlace),
  (∀ t∈ts,P.readableRec t=true∧t<P.types.size)→DataW.TrodAll enc P W 0 (fun _=>true) true ts vs ds ps→(∀ x∈ps,x.block<W.heap.size) →
  DataW.TrodAll enc P W' 0 (fun b=>decide (b<W.heap.size)) true ts vs ds ps
 |[],_,_,_,_,h,_=>by
  obtain ⟨rfl,rfl,rfl⟩:=trodAll_nil h;rfl
 |t::ts,_,_,_,hr,h,hlt=>by
  obtain ⟨v,vs1,d,ds1,a,b,rfl,rfl,rfl,h1,h2⟩:=trodAll_cons h;exact ⟨a,b,Below.trod hl (hr t (by simp)).1 (hr t (by simp)).2 h1 hb (fun x hx=>hlt x (by simp [hx])),Bi hl hb ts vs1 ds1 b (fun u hu=>hr u (by simp [hu])) h2 (fun x hx=>hlt x (by simp [hx])),rfl⟩
end
end Go.Am
end
section
namespace Go.Am.Sh
open Go.RowKit
abbrev t(n:Nat):RX:=.t n
abbrev i(n:Int):RX:=.c (.int .i64 n)
abbrev u(n:Int):RX:=.c (.int .u8 n)
abbrev T:RX:=.c (.bool true)
abbrev F:RX:=.c (.bool false)
abbrev s(x:List UInt8):RX:=.c (.str x)
abbrev f(n:Nat):RX:=.c (.fn (.func n) [] [])
abbrev o(d:Nat)(x:ROp):RO:=⟨some d,none,.op x⟩
abbrev n(x:ROp):RO:=⟨none,none,.op x⟩
abbrev g(d q:Nat)(x:ROp):RO:=⟨some d,some (q,true),.op x⟩
abbrev h(d q:Nat)(x:ROp):RO:=⟨some d,some (q,false),.op x⟩
abbrev k(d:Nat)(x:RX)(l:List RX):RO:=⟨some d,none,.call x l⟩
abbrev m(d x:Nat):RO:=⟨some d,none,.op (.mv (.t x))⟩
abbrev mc(d:Nat)(x:RX):RO:=⟨some d,none,.op (.mv x)⟩
abbrev ld(d x:Nat):RO:=⟨some d,none,.op (.ld none (.t x))⟩
abbrev la(d j x:Nat):RO:=⟨some d,none,.op (.ld (some j) (.t x))⟩
abbrev fa(d j x:Nat):RO:=⟨some d,none,.op (.fa j (.t x))⟩
abbrev ia(d j x y:Nat):RO:=⟨some d,none,.op (.ias j (.t x) (.t y))⟩
abbrev ls(d x:Nat):RO:=⟨some d,none,.op (.len .sl (.t x))⟩
abbrev lt(d x:Nat):RO:=⟨some d,none,.op (.len .str (.t x))⟩
abbrev ad(d x:Nat):RO:=⟨some d,none,.op (.ar .add (.t x) (.c (.int .i64 1)))⟩
abbrev bl(d x y:Nat):RO:=⟨some d,none,.op (.ar .lss (.t x) (.t y))⟩
abbrev no(d x:Nat):RO:=⟨some d,none,.op (.un .not (.t x))⟩
abbrev ex(d x j:Nat):RO:=⟨some d,none,.op (.ex (.t x) j)⟩
abbrev P(x:RO):RO×Cl:=(x,.pure)
abbrev W(x:RO):RO×Cl:=(x,.wide)
abbrev E(x:RO):RO×Cl:=(x,.eff)
abbrev K(x:RO):RO×Cl:=(x,.keep)
abbrev Q(x y:AC):AC:=.seq x y
abbrev C(c:Nat)(x y:AC):AC:=.cond (.t c) x y
abbrev O(l:List RO):AC:=.ops l
abbrev D(l:List (RO×Cl)):AC:=.dops false [] [] l
abbrev Y(l:List Nat):AC:=.lv l
abbrev R:AC:=.ret
abbrev X:AC:=.skip
abbrev ar(d:Nat)(op:BinOp)(x y:Nat):RO:=⟨some d,none,.op (.ar op (.t x) (.t y))⟩
abbrev ac(d:Nat)(op:BinOp)(x:Nat)(y:RX):RO:=⟨some d,none,.op (.ar op (.t x) y)⟩
abbrev pf(d c x:Nat):RO:=⟨some d,none,.op (.pk (.t c) (.t x) (.c (.bool false)))⟩
abbrev pt(d c x:Nat):RO:=⟨some d,none,.op (.pk (.t c) (.c (.bool true)) (.t x))⟩
abbrev k1(d f x:Nat):RO:=⟨some d,none,.call (.c (.fn (.func f) [] [])) [.t x]⟩
abbrev k2(d f x y:Nat):RO:=⟨some d,none,.call (.c (.fn (.func f) [] [])) [.t x,.t y]⟩
abbrev rt(d:Nat)(x:RX):AC:=.seq (.ops [⟨some d,none,.op (.mv x)⟩]) .ret
abbrev lo(l:List Nat)(x:AC):AC:=.loop ⟨some l,[],false⟩ x
abbrev lc(l:List Nat)(x:AC):AC:=.loop ⟨some l,[],true⟩ x
abbrev ic(b a c:Nat):AC:=.ops [⟨some b,none,.op (.mv (.t a))⟩,⟨some c,none,.op (.ar .add (.t b) (.c (.int .i64 1)))⟩,⟨some a,none,.op (.mv (.t c))⟩]
abbrev Pm(d x:Nat):RO×Cl:=(⟨some d,none,.op (.mv (.t x))⟩,.pure)
abbrev Pf(d j x:Nat):RO×Cl:=(⟨some d,none,.op (.fa j (.t x))⟩,.pure)
abbrev Wl(d x:Nat):RO×Cl:=(⟨some d,none,.op (.ld none (.t x))⟩,.wide)
abbrev qf(a:AFn)(r:List uy)(m:RM):Prop:=a.res=r∧a.mode=m∧a.dfr=none
end Go.Am.Sh
end
section
namespace Go.Am
open Go.RowKit
theorem Inv.kept{K:ak}{H:List AObj}{w w':World}(hi:Inv K H w)(h:Below w.heap.size w w'):Inv K H w':=by
 have hheap:∀ b,b<w.heap.size→w'.heap[b]?=w.heap[b]? := h.block;refine ⟨⟨h.os.trans hi.below.os,h.tape.trans hi.below.tape,h.output.trans hi.below.output,Nat.le_trans hi.below.size h.size,fun k hk => ?_⟩,fun b hb=>hi.base b (Nat.le_trans h.size hb),fun b off v hv => ?_,hi.len,fun id y hy => ?_,hi.inj,fun b t n ho => ?_,hi.glob,fun b s hs=>(rp.of_lt hheap).shp (hi.shape b s hs)⟩
 ·by_cases hk2:k<w.heap.size
  ·rw [hheap k hk2];exact hi.below.block k hk
  ·exact absurd (hi.base k (by omega)) hk
 ·rw [iB (hheap b (hi.imm_lt hv))];exact hi.imm _ _ _ hv
 ·exact (hi.obj id y hy).mono (.refl K) (fun b _ _ hb=>hheap b hb) (fun _ _ _=>⟨fun _ h=>h,fun h=>h,fun h=>h⟩)
 ·obtain ⟨hb,fr,us,T',lo,hh,h1,h2,h3,h4,h5⟩:=hi.own b t n ho
  exact ⟨hb,fr,us,T',lo,hh,h1,by rw [hheap b (Array.getElem?_eq_some_iff.1 h2).1];exact h2,h3,h4,h5⟩
end Go.Am
end
section
namespace Go.Am
open Go.RowKit Go.Proofs Go.Lib
theorem QE{K:ak}{H:List AObj}{w:World}(hi:Inv K H w){g:Nat}{cs:List AV}(hg:K.glob g=some cs){j:Nat}{av:AV}(hj:cs[j]?=some av):∃ u,w.cell? ⟨g,j,none⟩=some u∧V K av u:=by
 have hv:=hi.glob g cs hg;generalize hp:Value.pointer (some ⟨g,0,none⟩)=v at hv;cases hv with
 |vptr _ _ _ _ b o vs hl hi2 hv2=>
  injection hp with hp;injection hp with hp;injection hp with h1 h2;subst h1;have h0:o=0:=by omega
  subst h0;have h3:=hi.imm _ _ _ (hi2 0 j cs av rfl hj);have h4:=hv2 0 j cs av rfl hj;exact ⟨vs 0 j,by simpa using h3,h4⟩
def Gg(av:AV)(u:Value):Prop:=
 match av with
 |.int k n=>u = .int k n
 |.iface t .unk => ∃ p,u = .iface t p
 |_=>False
theorem Gg.v{K:ak}{av:AV}{u:Value}(h:Gg av u):V K av u:=by
 unfold Gg at h;split at h
 ·subst h;exact .int _ _
 ·obtain ⟨p,rfl⟩:=h;exact .iface _ _ _ (.unk _)
 ·exact h.elim
theorem Gh{G:Nat→Option (List AV)}{W:World}{g:Nat}{cs:List AV}(h:∀ j av,cs[j]?=some av→∃ u,W.cell? ⟨g,j,none⟩=some u∧Gg av u):V (ak.start W G) (.vptr cs.length [cs] 0 0) (.pointer (some ⟨g,0,none⟩)):=by
 have key:=V.vptr (K:=ak.start W G) cs.length [cs] 0 0 g 0 (fun _ j=>(W.cell? ⟨g,j,none⟩).getD .nilIface) (fun r hr=>by simp at hr;rw [hr])
  (fun i j r av h1 h2=>by
   cases i with
   |zero=>
    obtain rfl:r=cs:=by simpa using h1.symm
    obtain ⟨u,h3,_⟩:=h j av h2;simp [ak.start,h3]
   |succ i=>simp at h1)
  (fun i j r av h1 h2=>by
   cases i with
   |zero=>
    obtain rfl:r=cs:=by simpa using h1.symm
    obtain ⟨u,h3,h4⟩:=h j av h2;rw [h3];exact h4.v
   |succ i=>simp at h1)
 simpa using key
def QF:List AV:=[.int .u64 1,.int .u64 10,.int .u64 100,.int .u64 1000,.int .u64 10000,.int .u64 100000,.int .u64 1000000,.int .u64 10000000,.int .u64 100000000,.int .u64 1000000000,.int .u64 10000000000,.int .u64 100000000000,.int .u64 1000000000000,.int .u64 10000000000000,.int .u64 100000000000000,.int .u64 1000000000000000,.int .u64 10000000000000000,.int .u64 100000000000000000,.int .u64 1000000000000000000,.int .u64 10000000000000000000]
def yB(a b c:Nat)(te:TypeId):Nat→Option (List AV):=fun g=>bif Nat.beq g a then some [.iface te .unk] else bif Nat.beq g b then some [.iface te .unk] else bif Nat.beq g c then some QF else none
theorem Lk{a b c:Nat}{te:TypeId}{W:World}(ha:∃ p,W.cell? ⟨a,0,none⟩=some (.iface te p))(hb:∃ p,W.cell? ⟨b,0,none⟩=some (.iface te p))(hc:∀ j av,QF[j]?=some av→∃ u,W.cell? ⟨c,j,none⟩=some u∧Gg av u)(g:Nat)(cs:List AV)(h:yB a b c te g=some cs):V (ak.start W (yB a b c te)) (.vptr cs.length [cs] 0 0) (.pointer (some ⟨g,0,none⟩)):=by
 have one:∀ x,(∃ p,W.cell? ⟨x,0,none⟩=some (.iface te p))→V (ak.start W (yB a b c te)) (.vptr 1 [[.iface te .unk]] 0 0) (.pointer (some ⟨x,0,none⟩)):=fun x ⟨p,hp⟩=>Gh (cs:=[.iface te .unk]) fun j av hj=>by
  cases j with
  |zero=>cases hj;exact ⟨_,hp,p,rfl⟩
  |succ j=>simp at hj
 unfold yB at h;cases h1:Nat.beq g a with
 |true=>rw [h1] at h;cases h;rw [Nat.eq_of_beq_eq_true h1];exact one a ha
 |false=>
  rw [h1] at h;cases h2:Nat.beq g b with
  |true=>rw [h2] at h;cases h;rw [Nat.eq_of_beq_eq_true h2];exact one b hb
  |false=>
   rw [h2] at h;cases h3:Nat.beq g c with
   |true=>rw [h3] at h;cases h;rw [Nat.eq_of_beq_eq_true h3];exact Gh hc
   |false=>rw [h3] at h;cases h
theorem QG{a b c:Nat}{te:TypeId}(n g:Nat)(cs:List AV)(h:yB a b c te g=some cs):wkbL n cs=true:=by
 unfold yB at h;cases h1:Nat.beq g a with
 |true=>rw [h1] at h;cases h;rfl
 |false=>
  rw [h1] at h;cases h2:Nat.beq g b with
  |true=>rw [h2] at h;cases h;rfl
  |false=>
   rw [h2] at h;cases h3:Nat.beq g c with
   |true=>rw [h3] at h;cases h;rfl
   |false=>rw [h3] at h;cases h
def JI(s:List UInt8):Int:=match Lib.atoiAll s with
 |.ok v=>v
 |.range=>Lib.atoiSat s
 |_=>0
def JJ(tn:TypeId)(s:List UInt8):AV:=match Lib.atoiAll s with
 |.ok _=>.nilif
 |_=>.iface tn .unk
theorem QH{P:Program}{f:FuncId}{a b c:Nat}{te tn tb:TypeId}(hba:Nat.beq b a=false)(ef:∀ args w,(callFunc f args).run P w = .ok (.enter f args) w)
  (hok:∀ (s:ByteArray) (v:Int),s.size≤9223372036854775806→Lib.atoiAll s.data.toList = .ok v→∀ w,Calls P f #[.string s] w fun e w'=>e = .returned (.tuple #[.int .i64 v,.nilIface])∧(w'=w∨∃ t,w'=Lib.bytesWorld w tb t))
  (hsy:∀ (s:ByteArray),s.size≤281474976710656→(∀ v,Lib.atoiAll s.data.toList≠.ok v)→Lib.atoiAll s.data.toList≠.range→∀ (ev:Value) (w:World),w.cell? ⟨a,0,none⟩=some ev→(ev = .nilIface∨∃ te pe,ev = .iface te pe)→Calls P f #[.string s] w fun e w' => ∃ N,e = .returned (.tuple #[.int .i64 0,.iface tn (.pointer (some ⟨N,0,none⟩))])∧Below w.heap.size w w')
  (hrg:∀ (s:ByteArray),s.size≤281474976710656→Lib.atoiAll s.data.toList = .range→∀ (ev:Value) (w:World),w.cell? ⟨b,0,none⟩=some ev→(ev = .nilIface∨∃ te pe,ev = .iface te pe)→Calls P f #[.string s] w fun e w' => ∃ N,e = .returned (.tuple #[.int .i64 (Lib.atoiSat s.data.toList),.iface tn (.pointer (some ⟨N,0,none⟩))])∧Below w.heap.size w w')
  (s:List UInt8) (hs:s.length≤1000000) (H:List AObj):cT P (yB a b c te) f [.str s] H fun r H'=>r = .ret (.tuple [.int .i64 (JI s),JJ tn s])∧H'=H:=by
 intro K w cargs hg hi hv;obtain ⟨d,rfl,hd⟩:=B9 hv;cases hd;have ha:K.glob a=some [.iface te .unk]:=by rw [hg];simp [yB]
 have hb:K.glob b=some [.iface te .unk]:=by rw [hg];simp [yB,hba]
 have cell:∀ x,K.glob x=some [.iface te .unk]→∃ ev,w.cell? ⟨x,0,none⟩=some ev∧(ev = .nilIface∨∃ te pe,ev = .iface te pe):=fun x hx=>by
  obtain ⟨u,h1,h2⟩:=QE hi hx (j:=0) rfl;refine ⟨u,h1,.inr ?_⟩;cases h2;exact ⟨_,_,rfl⟩
 have hsz:(⟨s.toArray⟩:ByteArray).size=s.length:=by simp [ByteArray.size]
 have pair:∀ (x y:AV) (u v:Value),V K x u→V K y v→V K (.tuple [x,y]) (.tuple #[u,v]):=fun x y u v h1 h2=>.tuple _ _ rfl fun i av h=>by
  match i,h with
  |0,h=>cases h;exact h1
  |1,h=>cases h;exact h2
 have hd:(⟨s.toArray⟩:ByteArray).data.toList=s:=by simp
 cases he:Lib.atoiAll s with
 |ok v=>
  refine .inl ⟨ef _ _,(hok ⟨s.toArray⟩ v (by rw [hsz];omega) (by rw [hd];exact he) w).mono ?_⟩;rintro e w' ⟨rfl,hw⟩
  have hbl:Below w.heap.size w w':=by
   rcases hw with rfl | ⟨t,rfl⟩
   ·exact Below.refl _ _
   ·exact Lib.bytesWorld_below _ _ _
  refine ⟨K,.ret (.tuple [.int .i64 (JI s),JJ tn s]),_,.refl K, ?_,hi.kept hbl,rfl,rfl⟩;simp only [JI,JJ,he];exact pair _ _ _ _ (.int _ _) .nilif
 |range=>
  obtain ⟨ev,h1,h2⟩:=cell b hb;refine .inl ⟨ef _ _,(hrg ⟨s.toArray⟩ (by rw [hsz];omega) (by rw [hd];exact he) ev w h1 h2).mono ?_⟩;rintro e w' ⟨N,rfl,hbl⟩;refine ⟨K,.ret (.tuple [.int .i64 (JI s),JJ tn s]),_,.refl K, ?_,hi.kept hbl,rfl,rfl⟩;simp only [JI,JJ,he,hd];exact pair _ _ _ _ (.int _ _) (.iface _ _ _ (.unk _))
 |_=>
  obtain ⟨ev,h1,h2⟩:=cell a ha;refine .inl ⟨ef _ _,(hsy ⟨s.toArray⟩ (by rw [hsz];omega) (by rw [hd,he];intro v e;cases e) (by rw [hd,he];intro e;cases e) ev w h1 h2).mono ?_⟩;rintro e w' ⟨N,rfl,hbl⟩;refine ⟨K,.ret (.tuple [.int .i64 (JI s),JJ tn s]),_,.refl K, ?_,hi.kept hbl,rfl,rfl⟩;simp only [JI,JJ,he];exact pair _ _ _ _ (.int _ _) (.iface _ _ _ (.unk _))
def sf(E0:bc)(f:FuncId)(d:Nat→List UInt8)(n:Nat):Bool:=match Lh E0 100000 f [.int .i64 (n:Int),.int .i64 10] [] with
 |some (.str s)=>s == d n
 |_=>false
theorem UN{E0:bc}(h0:E0.Ok)(hG:∀ n g cs,E0.G g=some cs→wkbL n cs=true){f:FuncId}{d:Nat→List UInt8}{n:Nat}(h:sf E0 f d n=true)(H:List AObj):cT E0.P E0.G f [.int .i64 (n:Int),.int .i64 10] H fun r H'=>r = .ret (.str (d n))∧H'=H:=by
 unfold sf at h;split at h
 ·rename_i s hs
  rw [← eq_of_beq h];exact Ge h0 hG hs rfl
 ·cases h
def QI(P:Program)(t:TypeId):Bool:=match P.underlying t with
 |some (.interface _)=>true
 |_=>false
def T4(P:Program)(te:TypeId):Bool:=match P.underlying te with
 |some (.pointer e)=>(match P.underlying e with
  |some (.struct fs)=>(match fs with
   |⟨[f]⟩=>(match P.underlying f.type with
    |some .string=>true
    |_=>false)&&Nat.beq f.offset 0&&Nat.beq (P.cellsOf e) 1&&Nat.beq (P.cellsOf f.type) 1
   |_=>false)
  |_=>false)
 |_=>false
theorem IA {P:Program}{n:String}{text:List UInt8}{r:List (String×DataW Unit)}{W:World}{g:Nat}{ti te:TypeId} (h:laidMet P ((n,.iface "*errors.errorString" (.ptr (.agg [.lit (.string text)])))::r) W) (hg:P.globalNamed n=some g) (ht:(P.globals[g]?).map (·.type)=some ti) (hi:QI P ti=true)
  (hrow:∀ u,P.typeName? 3 u=some "*errors.errorString"→u=te) (hs:T4 P te=true):∃ p,W.cell? ⟨g,0,none⟩=some (.iface te p):=by
 unfold QI at hi;split at hi
 ·rename_i ms hms
  unfold T4 at hs;split at hs
  ·rename_i e hp
   split at hs
   ·rename_i fs he
    split at hs
    ·rename_i f
     simp only [Bool.and_eq_true] at hs;obtain ⟨⟨⟨h1,h2⟩,h3⟩,h4⟩:=hs;split at h1
     ·rename_i hst
      obtain ⟨a,s,hv,_⟩:=laid_sentinel h hg ht hms hrow hp he rfl (Nat.eq_of_beq_eq_true h2) hst (Nat.eq_of_beq_eq_true h3) (Nat.eq_of_beq_eq_true h4);have h0:=World.var?_cell hg hv 0;exact ⟨_,by simpa using h0⟩
     ·cases h1
    ·cases hs
   ·cases hs
  ·cases hs
 ·cases hi
def V0(P:Program)(t:TypeId)(n:Nat):Bool:=match P.underlying t with
 |some (.array m e)=>Nat.beq m n&&(match P.underlying e with
  |some (.int .u64)=>true
  |_=>false)&&Nat.beq (P.cellsOf e) 1&&Nat.beq (P.cellsOf t) n
 |_=>false
theorem SQ:∀ j:Fin 20,QF[j.1]?=some (.int .u64 (Lib.pow10Tab.getD j.1 0)):=fun j=>by
 obtain ⟨j,hj⟩:=j
 match j,hj with
 |0,_=>rfl
 |1,_=>rfl
 |2,_=>rfl
 |3,_=>rfl
 |4,_=>rfl
 |5,_=>rfl
 |6,_=>rfl
 |7,_=>rfl
 |8,_=>rfl
 |9,_=>rfl
 |10,_=>rfl
 |11,_=>rfl
 |12,_=>rfl
 |13,_=>rfl
 |14,_=>rfl
 |15,_=>rfl
 |16,_=>rfl
 |17,_=>rfl
 |18,_=>rfl
 |19,_=>rfl
 |j+20,hj=>omega
theorem OZ{P:Program}{W:World}{g:Nat}{t:TypeId}{n:String}{r:List (String×DataW Unit)}(h:laidMet P ((n,tabData .u64 Lib.pow10Tab)::r) W)(hg:P.globalNamed n=some g)(hty:(P.globals[g]?).map (·.type)=some t)(hb:V0 P t 20=true)(j:Nat)(av:AV)(hj:QF[j]?=some av):∃ u,W.cell? ⟨g,j,none⟩=some u∧Gg av u:=by
 unfold V0 at hb;split at hb
 ·rename_i m e ht
  simp only [Bool.and_eq_true] at hb;obtain ⟨⟨⟨h1,h2⟩,h3⟩,h4⟩:=hb;obtain rfl:=Nat.eq_of_beq_eq_true h1;split at h2
  ·rename_i he
   have hT:=tabIs_of_head hg hty ht he (Nat.eq_of_beq_eq_true h3) (Nat.eq_of_beq_eq_true h4) h;have hlt:j<20:=(List.getElem?_eq_some_iff.1 hj).1;have h5:=SQ ⟨j,hlt⟩;simp only at h5;rw [h5] at hj;cases hj;exact ⟨_,hT.cell hg j (by simpa [Lib.pow10Tab] using hlt),rfl⟩
  ·cases h2
 ·cases hb
def QJ(a b c:Nat)(te:TypeId)(W:World):Prop:=(∃ p,W.cell? ⟨a,0,none⟩=some (.iface te p))∧(∃ p,W.cell? ⟨b,0,none⟩=some (.iface te p))∧∀ j av,QF[j]?=some av→∃ u,W.cell? ⟨c,j,none⟩=some u∧Gg av u
theorem QJ.start{a b c:Nat}{te:TypeId}{W:World}(h:QJ a b c te W)(g:Nat)(cs:List AV)(hg:yB a b c te g=some cs):V (ak.start W (yB a b c te)) (.vptr cs.length [cs] 0 0) (.pointer (some ⟨g,0,none⟩)):=Lk h.1 h.2.1 h.2.2 g cs hg
end Go.Am
end
section
set_option linter.defProp false
namespace Go.Am
open Go.RowKit
abbrev Str:=List UInt8
abbrev bY:Nat:=140737488351232
def I64(n:Int):Prop := -9223372036854775808≤n∧n≤9223372036854775807
structure Sl (α:Type) where
 tag:Tag
 l:List α
def Tag.strip:Tag→Tag
 |.own _=>.any
 |t=>t
def Sl.strip{α:Type}(s:Sl α):Sl α:=⟨s.tag.strip,s.l⟩
theorem Ll(t:Tag)(n:Nat)(r:List (List AV)):AV.strip (.slice t n r) = .slice t.strip n r:=by cases t<;>rfl
theorem nn:(∀ (t:Tag) (n:Nat) (r:List (List AV)),AV.strip (.slice t n r) = .slice t.strip n r)∧(∀ (x:AV) (l:List AV),List.map AV.strip (x::l)=AV.strip x::List.map AV.strip l)∧List.map AV.strip []=[]∧(∀ a b:List AV,List.map AV.strip (a++b)=List.map AV.strip a++List.map AV.strip b):=
 ⟨Ll,fun _ _=>rfl,rfl,fun _ _=>List.map_append⟩
structure Sl.ok {α:Type} (s:Sl α) (n:Nat) (p:α→Prop):Prop where
 tag:Iv n s.tag
 len:s.l.length≤bY
 all:∀ x∈s.l,p x
theorem Iv.mono{n m:Nat}{t:Tag}(h:Iv n t)(hn:n≤m):Iv m t:=by
 cases t<;>first | trivial | exact Nat.lt_of_lt_of_le h hn
theorem Sl.ok.mono{α:Type}{s:Sl α}{n m:Nat}{p q:α→Prop}(h:s.ok n p)(hn:n≤m)(hp:∀ x,p x→q x):s.ok m q:=
 ⟨h.tag.mono hn,h.len,fun x hx=>hp x (h.all x hx)⟩
theorem Sl.ok.wk{α:Type}{s:Sl α}{n esz:Nat}{p:α→Prop}{row:α→List AV}(h:s.ok n p)(hr:∀ x,p x→WkL n (row x) (row x)):Wk n (.slice s.tag esz (s.l.map row)) (.slice s.tag esz (s.l.map row)):=
 wk_slice h.tag (by rw [rowsWk_map];exact fun x hx=>hr x (h.all x hx))
def aE(s:Str):List AV:=[.str s]
def QK(n:Int):List AV:=[.int .i64 n]
theorem gU:(∀ s:Str,bJ none (aE s) 0=some (.str s))∧(∀ n:Int,bJ none (QK n) 0=some (.int .i64 n)):=⟨fun _=>rfl,fun _=>rfl⟩
structure aJ where
 name:Str
 value:Str
def aJ.row(x:aJ):List AV:=[.str x.name,.str x.value]
theorem zR:(∀ x:aJ,oQ 2 (aJ.row x)=some (aJ.row x))∧(∀ x:aJ,bJ none (aJ.row x) 0=some (.str x.name))∧(∀ x:aJ,bJ none (aJ.row x) 1=some (.str x.value))∧(∀ x:aJ,(aJ.row x).length=2)∧(∀ x:aJ,(aJ.row x).all AV.cell=true)∧(∀ x:aJ,∀ c0 c1:AV,aU [c0,c1] 0 (aJ.row x)=aJ.row x)∧(∀ x:aJ,∀ y:aJ,aU (aJ.row y) 0 (aJ.row x)=aJ.row x)∧(∀ x:aJ,∀ (y:Str),aU (aJ.row x) 0 [.str y]=aJ.row { x with name:=y })∧(∀ x:aJ,∀ (y:Str),aU (aJ.row x) 1 [.str y]=aJ.row { x with value:=y })∧(∀ x:aJ,(aJ.row x).map AV.strip=aJ.row x)∧(∀ x:aJ,(aJ.row x).take 2=aJ.row x)∧(∀ x:aJ,(aJ.row x).drop 2=[]):=
 by refine ⟨?_, ?_, ?_, ?_, ?_, ?_, ?_, ?_, ?_, ?_, ?_, ?_⟩<;>(intros;first | rfl | (simp only [aJ.row];rfl) | (simp only [aJ.row,nn];rfl))
structure aJ.ok (n:Nat) (x:aJ):Prop where
 name:x.name.length≤bY
 value:x.value.length≤bY
theorem aJ.ok.mono{n m:Nat}{x:aJ}(h:x.ok n)(hn:n≤m):x.ok m:=⟨h.name,h.value⟩
theorem aJ.ok.wk{n:Nat}{x:aJ}(h:x.ok n):WkL n x.row x.row:=⟨wk_str _ _,wk_str _ _,trivial⟩
structure aV where
 name:Str
 values:Sl Str
def aV.row(x:aV):List AV:=[.str x.name,.slice x.values.tag 1 (x.values.l.map aE)]
def aV.strip(x:aV):aV := { x with values:=x.values.strip }
theorem qM:(∀ x:aV,oQ 2 (aV.row x)=some (aV.row x))∧(∀ x:aV,bJ none (aV.row x) 0=some (.str x.name))∧(∀ x:aV,bJ none (aV.row x) 1=some (.slice x.values.tag 1 (x.values.l.map aE)))∧(∀ x:aV,(aV.row x).length=2)∧(∀ x:aV,(aV.row x).all AV.cell=true)∧(∀ x:aV,∀ c0 c1:AV,aU [c0,c1] 0 (aV.row x)=aV.row x)∧(∀ x:aV,∀ y:aV,aU (aV.row y) 0 (aV.row x)=aV.row x)∧(∀ x:aV,∀ (y:Str),aU (aV.row x) 0 [.str y]=aV.row { x with name:=y })∧(∀ x:aV,∀ (t:Tag) (l:List Str),aU (aV.row x) 1 [.slice t 1 (l.map aE)]=aV.row { x with values:=⟨t,l⟩ })∧(∀ x:aV,(aV.row x).map AV.strip=aV.row x.strip)∧(∀ x:aV,(aV.row x).take 2=aV.row x)∧(∀ x:aV,(aV.row x).drop 2=[]):=
 by refine ⟨?_, ?_, ?_, ?_, ?_, ?_, ?_, ?_, ?_, ?_, ?_, ?_⟩<;>(intros;first | rfl | (simp only [aV.row];rfl) | (simp only [aV.row,nn];rfl))
structure aV.ok (n:Nat) (x:aV):Prop where
 name:x.name.length≤bY
 values:x.values.ok n (fun s=>s.length≤bY)
theorem aV.ok.mono{n m:Nat}{x:aV}(h:x.ok n)(hn:n≤m):x.ok m:=⟨h.name,h.values.mono hn (fun _ h=>h)⟩
theorem aV.ok.wk{n:Nat}{x:aV}(h:x.ok n):WkL n x.row x.row:=⟨wk_str _ _,h.values.wk (fun _ _=>⟨wk_str _ _,trivial⟩),trivial⟩
structure bF where
 cut:Int
 pre:Str
 add:Str
 feats:Sl aJ
def bF.row(x:bF):List AV:=[.int .i64 x.cut,.str x.pre,.str x.add,.slice x.feats.tag 2 (x.feats.l.map aJ.row)]
def bF.strip(x:bF):bF := { x with feats:=x.feats.strip }
theorem Gi:(∀ x:bF,oQ 4 (bF.row x)=some (bF.row x))∧(∀ x:bF,bJ none (bF.row x) 0=some (.int .i64 x.cut))∧(∀ x:bF,bJ none (bF.row x) 1=some (.str x.pre))∧(∀ x:bF,bJ none (bF.row x) 2=some (.str x.add))∧(∀ x:bF,bJ none (bF.row x) 3=some (.slice x.feats.tag 2 (x.feats.l.map aJ.row)))∧(∀ x:bF,(bF.row x).length=4)∧(∀ x:bF,(bF.row x).all AV.cell=true)∧(∀ x:bF,∀ c0 c1 c2 c3:AV,aU [c0,c1,c2,c3] 0 (bF.row x)=bF.row x)∧(∀ x:bF,∀ y:bF,aU (bF.row y) 0 (bF.row x)=bF.row x)∧(∀ x:bF,∀ (y:Int),aU (bF.row x) 0 [.int .i64 y]=bF.row { x with cut:=y })∧(∀ x:bF,∀ (y:Str),aU (bF.row x) 1 [.str y]=bF.row { x with pre:=y })∧(∀ x:bF,∀ (y:Str),aU (bF.row x) 2 [.str y]=bF.row { x with add:=y })∧(∀ x:bF,∀ (t:Tag) (l:List aJ),aU (bF.row x) 3 [.slice t 2 (l.map aJ.row)]=bF.row { x with feats:=⟨t,l⟩ })∧(∀ x:bF,(bF.row x).map AV.strip=bF.row x.strip)∧(∀ x:bF,(bF.row x).take 4=bF.row x)∧(∀ x:bF,(bF.row x).drop 4=[]):=
 by refine ⟨?_, ?_, ?_, ?_, ?_, ?_, ?_, ?_, ?_, ?_, ?_, ?_, ?_, ?_, ?_, ?_⟩<;>(intros;first | rfl | (simp only [bF.row];rfl) | (simp only [bF.row,nn];rfl))
structure bF.ok (n:Nat) (x:bF):Prop where
 cut:I64 x.cut
 pre:x.pre.length≤bY
 add:x.add.length≤bY
 feats:x.feats.ok n (aJ.ok n)
theorem bF.ok.mono{n m:Nat}{x:bF}(h:x.ok n)(hn:n≤m):x.ok m:=⟨h.cut,h.pre,h.add,h.feats.mono hn (fun _ h=>h.mono hn)⟩
theorem bF.ok.wk{n:Nat}{x:bF}(h:x.ok n):WkL n x.row x.row:=⟨wk_int _ _ _,wk_str _ _,wk_str _ _,h.feats.wk (fun _ h=>h.wk),trivial⟩
structure aL where
 name:Str
 slots:Sl bF
def aL.row(x:aL):List AV:=[.str x.name,.slice x.slots.tag 4 (x.slots.l.map bF.row)]
def aL.strip(x:aL):aL := { x with slots:=x.slots.strip }
theorem mM:(∀ x:aL,oQ 2 (aL.row x)=some (aL.row x))∧(∀ x:aL,bJ none (aL.row x) 0=some (.str x.name))∧(∀ x:aL,bJ none (aL.row x) 1=some (.slice x.slots.tag 4 (x.slots.l.map bF.row)))∧(∀ x:aL,(aL.row x).length=2)∧(∀ x:aL,(aL.row x).all AV.cell=true)∧(∀ x:aL,∀ c0 c1:AV,aU [c0,c1] 0 (aL.row x)=aL.row x)∧(∀ x:aL,∀ y:aL,aU (aL.row y) 0 (aL.row x)=aL.row x)∧(∀ x:aL,∀ (y:Str),aU (aL.row x) 0 [.str y]=aL.row { x with name:=y })∧(∀ x:aL,∀ (t:Tag) (l:List bF),aU (aL.row x) 1 [.slice t 4 (l.map bF.row)]=aL.row { x with slots:=⟨t,l⟩ })∧(∀ x:aL,(aL.row x).map AV.strip=aL.row x.strip)∧(∀ x:aL,(aL.row x).take 2=aL.row x)∧(∀ x:aL,(aL.row x).drop 2=[]):=
 by refine ⟨?_, ?_, ?_, ?_, ?_, ?_, ?_, ?_, ?_, ?_, ?_, ?_⟩<;>(intros;first | rfl | (simp only [aL.row];rfl) | (simp only [aL.row,nn];rfl))
structure aL.ok (n:Nat) (x:aL):Prop where
 name:x.name.length≤bY
 slots:x.slots.ok n (bF.ok n)
theorem aL.ok.mono{n m:Nat}{x:aL}(h:x.ok n)(hn:n≤m):x.ok m:=⟨h.name,h.slots.mono hn (fun _ h=>h.mono hn)⟩
theorem aL.ok.wk{n:Nat}{x:aL}(h:x.ok n):WkL n x.row x.row:=⟨wk_str _ _,h.slots.wk (fun _ h=>h.wk),trivial⟩
structure bp where
 slot:Int
 word:Str
def bp.row(x:bp):List AV:=[.int .i64 x.slot,.str x.word]
theorem De:(∀ x:bp,oQ 2 (bp.row x)=some (bp.row x))∧(∀ x:bp,bJ none (bp.row x) 0=some (.int .i64 x.slot))∧(∀ x:bp,bJ none (bp.row x) 1=some (.str x.word))∧(∀ x:bp,(bp.row x).length=2)∧(∀ x:bp,(bp.row x).all AV.cell=true)∧(∀ x:bp,∀ c0 c1:AV,aU [c0,c1] 0 (bp.row x)=bp.row x)∧(∀ x:bp,∀ y:bp,aU (bp.row y) 0 (bp.row x)=bp.row x)∧(∀ x:bp,∀ (y:Int),aU (bp.row x) 0 [.int .i64 y]=bp.row { x with slot:=y })∧(∀ x:bp,∀ (y:Str),aU (bp.row x) 1 [.str y]=bp.row { x with word:=y })∧(∀ x:bp,(bp.row x).map AV.strip=bp.row x)∧(∀ x:bp,(bp.row x).take 2=bp.row x)∧(∀ x:bp,(bp.row x).drop 2=[]):=
 by refine ⟨?_, ?_, ?_, ?_, ?_, ?_, ?_, ?_, ?_, ?_, ?_, ?_⟩<;>(intros;first | rfl | (simp only [bp.row];rfl) | (simp only [bp.row,nn];rfl))
structure bp.ok (n:Nat) (x:bp):Prop where
 slot:I64 x.slot
 word:x.word.length≤bY
theorem bp.ok.mono{n m:Nat}{x:bp}(h:x.ok n)(hn:n≤m):x.ok m:=⟨h.slot,h.word⟩
theorem bp.ok.wk{n:Nat}{x:bp}(h:x.ok n):WkL n x.row x.row:=⟨wk_int _ _ _,wk_str _ _,trivial⟩
structure aI where
 lem:Str
 cls:Str
 feats:Sl aJ
 forms:Sl bp
def aI.row(x:aI):List AV:=[.str x.lem,.str x.cls,.slice x.feats.tag 2 (x.feats.l.map aJ.row),.slice x.forms.tag 2 (x.forms.l.map bp.row)]
def aI.strip(x:aI):aI := { x with feats:=x.feats.strip,forms:=x.forms.strip }
theorem sg:(∀ x:aI,oQ 4 (aI.row x)=some (aI.row x))∧(∀ x:aI,bJ none (aI.row x) 0=some (.str x.lem))∧(∀ x:aI,bJ none (aI.row x) 1=some (.str x.cls))∧(∀ x:aI,bJ none (aI.row x) 2=some (.slice x.feats.tag 2 (x.feats.l.map aJ.row)))∧(∀ x:aI,bJ none (aI.row x) 3=some (.slice x.forms.tag 2 (x.forms.l.map bp.row)))∧(∀ x:aI,(aI.row x).length=4)∧(∀ x:aI,(aI.row x).all AV.cell=true)∧(∀ x:aI,∀ c0 c1 c2 c3:AV,aU [c0,c1,c2,c3] 0 (aI.row x)=aI.row x)∧(∀ x:aI,∀ y:aI,aU (aI.row y) 0 (aI.row x)=aI.row x)∧(∀ x:aI,∀ (y:Str),aU (aI.row x) 0 [.str y]=aI.row { x with lem:=y })∧(∀ x:aI,∀ (y:Str),aU (aI.row x) 1 [.str y]=aI.row { x with cls:=y })∧(∀ x:aI,∀ (t:Tag) (l:List aJ),aU (aI.row x) 2 [.slice t 2 (l.map aJ.row)]=aI.row { x with feats:=⟨t,l⟩ })∧(∀ x:aI,∀ (t:Tag) (l:List bp),aU (aI.row x) 3 [.slice t 2 (l.map bp.row)]=aI.row { x with forms:=⟨t,l⟩ })∧(∀ x:aI,(aI.row x).map AV.strip=aI.row x.strip)∧(∀ x:aI,(aI.row x).take 4=aI.row x)∧(∀ x:aI,(aI.row x).drop 4=[]):=
 by refine ⟨?_, ?_, ?_, ?_, ?_, ?_, ?_, ?_, ?_, ?_, ?_, ?_, ?_, ?_, ?_, ?_⟩<;>(intros;first | rfl | (simp only [aI.row];rfl) | (simp only [aI.row,nn];rfl))
structure aI.ok (n:Nat) (x:aI):Prop where
 lem:x.lem.length≤bY
 cls:x.cls.length≤bY
 feats:x.feats.ok n (aJ.ok n)
 forms:x.forms.ok n (bp.ok n)
theorem aI.ok.mono{n m:Nat}{x:aI}(h:x.ok n)(hn:n≤m):x.ok m:=⟨h.lem,h.cls,h.feats.mono hn (fun _ h=>h.mono hn),h.forms.mono hn (fun _ h=>h.mono hn)⟩
theorem aI.ok.wk{n:Nat}{x:aI}(h:x.ok n):WkL n x.row x.row:=⟨wk_str _ _,wk_str _ _,h.feats.wk (fun _ h=>h.wk),h.forms.wk (fun _ h=>h.wk),trivial⟩
structure bq where
 frm:Str
 to:Str
 left:Str
 right:Str
def bq.row(x:bq):List AV:=[.str x.frm,.str x.to,.str x.left,.str x.right]
theorem Gj:(∀ x:bq,oQ 4 (bq.row x)=some (bq.row x))∧(∀ x:bq,bJ none (bq.row x) 0=some (.str x.frm))∧(∀ x:bq,bJ none (bq.row x) 1=some (.str x.to))∧(∀ x:bq,bJ none (bq.row x) 2=some (.str x.left))∧(∀ x:bq,bJ none (bq.row x) 3=some (.str x.right))∧(∀ x:bq,(bq.row x).length=4)∧(∀ x:bq,(bq.row x).all AV.cell=true)∧(∀ x:bq,∀ c0 c1 c2 c3:AV,aU [c0,c1,c2,c3] 0 (bq.row x)=bq.row x)∧(∀ x:bq,∀ y:bq,aU (bq.row y) 0 (bq.row x)=bq.row x)∧(∀ x:bq,∀ (y:Str),aU (bq.row x) 0 [.str y]=bq.row { x with frm:=y })∧(∀ x:bq,∀ (y:Str),aU (bq.row x) 1 [.str y]=bq.row { x with to:=y })∧(∀ x:bq,∀ (y:Str),aU (bq.row x) 2 [.str y]=bq.row { x with left:=y })∧(∀ x:bq,∀ (y:Str),aU (bq.row x) 3 [.str y]=bq.row { x with right:=y })∧(∀ x:bq,(bq.row x).map AV.strip=bq.row x)∧(∀ x:bq,(bq.row x).take 4=bq.row x)∧(∀ x:bq,(bq.row x).drop 4=[]):=
 by refine ⟨?_, ?_, ?_, ?_, ?_, ?_, ?_, ?_, ?_, ?_, ?_, ?_, ?_, ?_, ?_, ?_⟩<;>(intros;first | rfl | (simp only [bq.row];rfl) | (simp only [bq.row,nn];rfl))
structure bq.ok (n:Nat) (x:bq):Prop where
 frm:x.frm.length≤bY
 to:x.to.length≤bY
 left:x.left.length≤bY
 right:x.right.length≤bY
theorem bq.ok.mono{n m:Nat}{x:bq}(h:x.ok n)(hn:n≤m):x.ok m:=⟨h.frm,h.to,h.left,h.right⟩
theorem bq.ok.wk{n:Nat}{x:bq}(h:x.ok n):WkL n x.row x.row:=⟨wk_str _ _,wk_str _ _,wk_str _ _,wk_str _ _,trivial⟩
structure cF where
 cls:Str
 glue:Str
 feats:Sl aJ
def cF.row(x:cF):List AV:=[.str x.cls,.str x.glue,.slice x.feats.tag 2 (x.feats.l.map aJ.row)]
def cF.strip(x:cF):cF := { x with feats:=x.feats.strip }
theorem IB:(∀ x:cF,oQ 3 (cF.row x)=some (cF.row x))∧(∀ x:cF,bJ none (cF.row x) 0=some (.str x.cls))∧(∀ x:cF,bJ none (cF.row x) 1=some (.str x.glue))∧(∀ x:cF,bJ none (cF.row x) 2=some (.slice x.feats.tag 2 (x.feats.l.map aJ.row)))∧(∀ x:cF,(cF.row x).length=3)∧(∀ x:cF,(cF.row x).all AV.cell=true)∧(∀ x:cF,∀ c0 c1 c2:AV,aU [c0,c1,c2] 0 (cF.row x)=cF.row x)∧(∀ x:cF,∀ y:cF,aU (cF.row y) 0 (cF.row x)=cF.row x)∧(∀ x:cF,∀ (y:Str),aU (cF.row x) 0 [.str y]=cF.row { x with cls:=y })∧(∀ x:cF,∀ (y:Str),aU (cF.row x) 1 [.str y]=cF.row { x with glue:=y })∧(∀ x:cF,∀ (t:Tag) (l:List aJ),aU (cF.row x) 2 [.slice t 2 (l.map aJ.row)]=cF.row { x with feats:=⟨t,l⟩ })∧(∀ x:cF,(cF.row x).map AV.strip=cF.row x.strip)∧(∀ x:cF,(cF.row x).take 3=cF.row x)∧(∀ x:cF,(cF.row x).drop 3=[]):=
 by refine ⟨?_, ?_, ?_, ?_, ?_, ?_, ?_, ?_, ?_, ?_, ?_, ?_, ?_, ?_⟩<;>(intros;first | rfl | (simp only [cF.row];rfl) | (simp only [cF.row,nn];rfl))
structure cF.ok (n:Nat) (x:cF):Prop where
 cls:x.cls.length≤bY
 glue:x.glue.length≤bY
 feats:x.feats.ok n (aJ.ok n)
theorem cF.ok.mono{n m:Nat}{x:cF}(h:x.ok n)(hn:n≤m):x.ok m:=⟨h.cls,h.glue,h.feats.mono hn (fun _ h=>h.mono hn)⟩
theorem cF.ok.wk{n:Nat}{x:cF}(h:x.ok n):WkL n x.row x.row:=⟨wk_str _ _,wk_str _ _,h.feats.wk (fun _ h=>h.wk),trivial⟩
structure Lex where
 vowels:Str
 traits:Sl aV
 classes:Sl aL
 entries:Sl aI
 spells:Sl bq
 links:Sl cF
def Lex.row(x:Lex):List AV:=[.str x.vowels,.slice x.traits.tag 2 (x.traits.l.map aV.row),.slice x.classes.tag 2 (x.classes.l.map aL.row),.slice x.entries.tag 4 (x.entries.l.map aI.row),.slice x.spells.tag 4 (x.spells.l.map bq.row),.slice x.links.tag 3 (x.links.l.map cF.row)]
def Lex.strip(x:Lex):Lex := { x with traits:=x.traits.strip,classes:=x.classes.strip,entries:=x.entries.strip,spells:=x.spells.strip,links:=x.links.strip }
theorem jJ:(∀ x:Lex,oQ 6 (Lex.row x)=some (Lex.row x))∧(∀ x:Lex,bJ none (Lex.row x) 0=some (.str x.vowels))∧(∀ x:Lex,bJ none (Lex.row x) 1=some (.slice x.traits.tag 2 (x.traits.l.map aV.row)))∧(∀ x:Lex,bJ none (Lex.row x) 2=some (.slice x.classes.tag 2 (x.classes.l.map aL.row)))∧(∀ x:Lex,bJ none (Lex.row x) 3=some (.slice x.entries.tag 4 (x.entries.l.map aI.row)))∧(∀ x:Lex,bJ none (Lex.row x) 4=some (.slice x.spells.tag 4 (x.spells.l.map bq.row)))∧(∀ x:Lex,bJ none (Lex.row x) 5=some (.slice x.links.tag 3 (x.links.l.map cF.row)))∧(∀ x:Lex,(Lex.row x).length=6)∧(∀ x:Lex,(Lex.row x).all AV.cell=true)∧(∀ x:Lex,∀ c0 c1 c2 c3 c4 c5:AV,aU [c0,c1,c2,c3,c4,c5] 0 (Lex.row x)=Lex.row x)∧(∀ x:Lex,∀ y:Lex,aU (Lex.row y) 0 (Lex.row x)=Lex.row x)∧(∀ x:Lex,∀ (y:Str),aU (Lex.row x) 0 [.str y]=Lex.row { x with vowels:=y })∧(∀ x:Lex,∀ (t:Tag) (l:List aV),aU (Lex.row x) 1 [.slice t 2 (l.map aV.row)]=Lex.row { x with traits:=⟨t,l⟩ })∧(∀ x:Lex,∀ (t:Tag) (l:List aL),aU (Lex.row x) 2 [.slice t 2 (l.map aL.row)]=Lex.row { x with classes:=⟨t,l⟩ })∧(∀ x:Lex,∀ (t:Tag) (l:List aI),aU (Lex.row x) 3 [.slice t 4 (l.map aI.row)]=Lex.row { x with entries:=⟨t,l⟩ })∧(∀ x:Lex,∀ (t:Tag) (l:List bq),aU (Lex.row x) 4 [.slice t 4 (l.map bq.row)]=Lex.row { x with spells:=⟨t,l⟩ })∧(∀ x:Lex,∀ (t:Tag) (l:List cF),aU (Lex.row x) 5 [.slice t 3 (l.map cF.row)]=Lex.row { x with links:=⟨t,l⟩ })∧(∀ x:Lex,(Lex.row x).map AV.strip=Lex.row x.strip)∧(∀ x:Lex,(Lex.row x).take 6=Lex.row x)∧(∀ x:Lex,(Lex.row x).drop 6=[]):=
 by refine ⟨?_, ?_, ?_, ?_, ?_, ?_, ?_, ?_, ?_, ?_, ?_, ?_, ?_, ?_, ?_, ?_, ?_, ?_, ?_, ?_⟩<;>(intros;first | rfl | (simp only [Lex.row];rfl) | (simp only [Lex.row,nn];rfl))
structure Lex.ok (n:Nat) (x:Lex):Prop where
 vowels:x.vowels.length≤bY
 traits:x.traits.ok n (aV.ok n)
 classes:x.classes.ok n (aL.ok n)
 entries:x.entries.ok n (aI.ok n)
 spells:x.spells.ok n (bq.ok n)
 links:x.links.ok n (cF.ok n)
theorem Lex.ok.mono{n m:Nat}{x:Lex}(h:x.ok n)(hn:n≤m):x.ok m:=⟨h.vowels,h.traits.mono hn (fun _ h=>h.mono hn),h.classes.mono hn (fun _ h=>h.mono hn),h.entries.mono hn (fun _ h=>h.mono hn),h.spells.mono hn (fun _ h=>h.mono hn),h.links.mono hn (fun _ h=>h.mono hn)⟩
theorem Lex.ok.wk{n:Nat}{x:Lex}(h:x.ok n):WkL n x.row x.row:=⟨wk_str _ _,h.traits.wk (fun _ h=>h.wk),h.classes.wk (fun _ h=>h.wk),h.entries.wk (fun _ h=>h.wk),h.spells.wk (fun _ h=>h.wk),h.links.wk (fun _ h=>h.wk),trivial⟩
structure zS where
 entry:Int
 slot:Int
 link:Int
def zS.row(x:zS):List AV:=[.int .i64 x.entry,.int .i64 x.slot,.int .i64 x.link]
structure zS.ok (n:Nat) (x:zS):Prop where
 entry:I64 x.entry
 slot:I64 x.slot
 link:I64 x.link
theorem zS.ok.mono{n m:Nat}{x:zS}(h:x.ok n)(hn:n≤m):x.ok m:=⟨h.entry,h.slot,h.link⟩
theorem zS.ok.wk{n:Nat}{x:zS}(h:x.ok n):WkL n x.row x.row:=⟨wk_int _ _ _,wk_int _ _ _,wk_int _ _ _,trivial⟩
structure mN where
 firsts:Sl zS
 entry:Int
 slot:Int
def mN.row(x:mN):List AV:=[.slice x.firsts.tag 3 (x.firsts.l.map zS.row),.int .i64 x.entry,.int .i64 x.slot]
def mN.strip(x:mN):mN := { x with firsts:=x.firsts.strip }
structure mN.ok (n:Nat) (x:mN):Prop where
 firsts:x.firsts.ok n (zS.ok n)
 entry:I64 x.entry
 slot:I64 x.slot
theorem mN.ok.mono{n m:Nat}{x:mN}(h:x.ok n)(hn:n≤m):x.ok m:=⟨h.firsts.mono hn (fun _ h=>h.mono hn),h.entry,h.slot⟩
theorem mN.ok.wk{n:Nat}{x:mN}(h:x.ok n):WkL n x.row x.row:=⟨h.firsts.wk (fun _ h=>h.wk),wk_int _ _ _,wk_int _ _ _,trivial⟩
structure Ask where
 lem:Str
 cls:Str
 feats:Sl aJ
 entry:Int
 slot:Int
def Ask.row(x:Ask):List AV:=[.str x.lem,.str x.cls,.slice x.feats.tag 2 (x.feats.l.map aJ.row),.int .i64 x.entry,.int .i64 x.slot]
def Ask.strip(x:Ask):Ask := { x with feats:=x.feats.strip }
structure Ask.ok (n:Nat) (x:Ask):Prop where
 lem:x.lem.length≤bY
 cls:x.cls.length≤bY
 feats:x.feats.ok n (aJ.ok n)
 entry:I64 x.entry
 slot:I64 x.slot
theorem Ask.ok.mono{n m:Nat}{x:Ask}(h:x.ok n)(hn:n≤m):x.ok m:=⟨h.lem,h.cls,h.feats.mono hn (fun _ h=>h.mono hn),h.entry,h.slot⟩
theorem Ask.ok.wk{n:Nat}{x:Ask}(h:x.ok n):WkL n x.row x.row:=⟨wk_str _ _,wk_str _ _,h.feats.wk (fun _ h=>h.wk),wk_int _ _ _,wk_int _ _ _,trivial⟩
theorem bG{α:Type}{row:α→List AV}{l:List α}{tag:Tag}{sz:Nat}{k:IntKind}{i:Nat}(h:i<l.length):qi sz (.slice tag sz (l.map row)) (.int k (i:Int))=some (.vptr sz (l.map row) i 0):=
 rias_nat (esz:=0) (by simpa using h)
theorem Gk{α:Type}{row:α→List AV}{l:List α}{tag:Tag}{sz:Nat}{k:IntKind}{i:Nat}(h:i<l.length):zB sz (.slice tag sz (l.map row)) none (some (.int k (i:Int))) none=some (.slice .any sz ((l.take i).map row)):=by
 have h0:l≠[]:=fun e=>by simp [e] at h
 simp [zB,eF,Nat.le_of_lt h,h0,List.map_take]
theorem Lm{α:Type}{row:α→List AV}{l:List α}{tag:Tag}{sz:Nat}{k:IntKind}{i:Nat}(h:i≤l.length)(h0:0<l.length):zB sz (.slice tag sz (l.map row)) (some (.int k (i:Int))) none none=some (.slice .any sz ((l.drop i).map row)):=by
 have h0:l≠[]:=fun e=>by simp [e] at h0
 simp [zB,eF,h,h0,List.map_drop];rw [← List.map_drop];exact List.take_of_length_le (by simp)
theorem cY{i n:Nat}(h:i<n)(hn:n≤bY):IntKind.i64.wrap ((i:Int)+1)=((i+1:Nat):Int):=by
 rw [fO (by omega) (by simp only [bY] at hn;omega)];rfl
theorem QL{i:Nat}(h:i+1≤bY):IntKind.i64.wrap (((i+1:Nat):Int)-1)=(i:Int):=by
 simp only [bY] at h;rw [fO (by omega) (by omega)];omega
theorem QM{α:Type}(row:α→List AV)(l:List α)(i:Nat):(l.map row)[i]?=(l[i]?).map row:=List.getElem?_map ..
def slc{α:Type}(b:Bool)(x y:α):α:=
 match b with
 |true=>x
 |false=>y
theorem cM{α:Type}{b b':Bool}{x y:α}(h:b=b'):sel b x y=sel b' x y:=by rw [h]
theorem bt{α:Type}{b b':Bool}{x x' y y':α}(hb:b=b')(hx:b'=true→x=x')(hy:b'=false→y=y'):slc b x y=slc b' x' y':=by
 subst hb;cases b
 ·exact hy rfl
 ·exact hx rfl
theorem slc_true{α:Type}(x y:α):slc true x y=x:=rfl
theorem slc_false{α:Type}(x y:α):slc false x y=y:=rfl
theorem slc_not{α:Type}(b:Bool)(x y:α):slc (!b) x y=slc b y x:=by cases b<;>rfl
theorem amS :
 (∀ (α:Type) (b:Bool) (x y:α),sel b x y=slc b x y) ∧
 (∀ (α:Type) (x y:α),slc true x y=x)∧(∀ (α:Type) (x y:α),slc false x y=y)∧(∀ (α:Type) (b:Bool) (x y:α),slc (!b) x y=slc b y x) ∧
 (∀ (α:Type) (b:Bool) (x:α),slc b x x=x) ∧
 (∀ (α:Type) (b:Bool) (x y:α),slc b (some x) (some y)=some (slc b x y)) ∧
 (∀ (α β:Type) (b:Bool) (x x':α) (y y':β),slc b (x,y) (x',y')=(slc b x x',slc b y y')) ∧
 (∀ (b:Bool) (v v':AV),slc b (qh.ret v) (qh.ret v') = .ret (slc b v v')) ∧
 (∀ (b p q:Bool),slc b (AV.bool p) (AV.bool q) = .bool (slc b p q)) ∧
 (∀ (b:Bool) (k:IntKind) (x y:Int),slc b (AV.int k x) (AV.int k y) = .int k (slc b x y)) ∧
 (∀ (b:Bool) (x y:Str),slc b (AV.str x) (AV.str y) = .str (slc b x y)) ∧
 (∀ (α:Type) (b p:Bool) (x y:α),slc b (slc p x y) y=slc (b&&p) x y) ∧
 (∀ b p:Bool,slc b p false=(b&&p))∧(∀ b p:Bool,slc b true p=(b||p))∧(∀ b p:Bool,slc b p true=(!b||p))∧(∀ b p:Bool,slc b false p=(!b&&p)) ∧
 (∀ (α:Type) (b w:Bool) (v v':AV) (x u:Option α),zM (slc b v v') w x u=slc b (zM v w x u) (zM v' w x u)):=
 ⟨fun _ _ _ _=>rfl,fun _ _ _=>rfl,fun _ _ _=>rfl,fun _=>slc_not,fun _ b _=>by cases b<;>rfl,fun _ b _ _=>by cases b<;>rfl,fun _ _ b _ _ _ _=>by cases b<;>rfl,fun b _ _=>by cases b<;>rfl,fun b _ _=>by cases b<;>rfl,
  fun b _ _ _=>by cases b<;>rfl,fun b _ _=>by cases b<;>rfl,fun _ b p _ _=>by cases b<;>cases p<;>rfl,fun b _=>by cases b<;>rfl,fun b _=>by cases b<;>rfl,fun b _=>by cases b<;>rfl,fun b _=>by cases b<;>rfl,fun _ b _ _ _ _ _=>by cases b<;>rfl⟩
def orE(o:Option AV)(H:List AObj)(x:Option Out):Option Out:=
 match o with
 |some v=>some (.ret v,H)
 |none=>x
def orO{α:Type}(o y:Option α):Option α:=
 match o with
 |some v=>some v
 |none=>y
def fJ{α:Type}(F:Nat→α→Option AV):Nat→List α→Option AV
 |_,[]=>none
 |i,x::l=>orO (F i x) (fJ F (i+1) l)
theorem Gl(v:AV)(H:List AObj)(x:Option Out):orE (some v) H x=some (.ret v,H):=rfl
theorem QN(H:List AObj)(x:Option Out):orE none H x=x:=rfl
theorem JK(b:Bool)(o o':Option AV)(H:List AObj)(x:Option Out):orE (sel b o o') H x=sel b (orE o H x) (orE o' H x):=by cases b<;>rfl
theorem SR(o o':Option AV)(H:List AObj)(x:Option Out):orE (orO o o') H x=orE o H (orE o' H x):=by cases o<;>rfl
theorem Gm{α:Type}(v:α)(y:Option α):orO (some v) y=some v:=rfl
theorem Gn{α:Type}(y:Option α):orO none y=y:=rfl
theorem JL{α:Type}(b:Bool)(o o' y:Option α):orO (sel b o o') y=sel b (orO o y) (orO o' y):=by cases b<;>rfl
theorem MR{α:Type}(F:Nat→α→Option AV)(i:Nat):fJ F i []=none:=rfl
theorem zT{α:Type}(F:Nat→α→Option AV)(i:Nat)(x:α)(l:List α):fJ F i (x::l)=orO (F i x) (fJ F (i+1) l):=rfl
theorem zU{α:Type}{l:List α}{n:Nat}(h:l.length≤n)(i:Nat):(l.take i).length≤n:=by simp;omega
theorem Lo{H0 H:List AObj}(h:dP H0 H)(L:List AObj):dP H0 (H++L):=
 ⟨by have:=h.1;simp;omega,fun i x hi hx=>h.2 i x hi (by
  have:=h.1;rwa [List.getElem?_append_left (by omega)] at hx)⟩
theorem O0{H0 H:List AObj}(h:dP H0 H)(L:List AObj):(H++L).take H0.length=H.take H0.length:=
 List.take_append_of_le_length h.1
theorem By{sz:Nat}{r:List AV}(h1:r.length=sz)(h2:r.all AV.cell=true):r9 sz [r]=true:=by simp [r9,h1,h2]
def Gp(pl:Nat→Option (Nat×Nat))(cs:List AV)(rest:List (Nat×AV))(o:Option (Nat×Nat))(c:Option (List AV)):Option (List AV):=
 match o,c with
 |some (off,size),some cells=>if cells.length=size∧off+cells.length≤cs.length then jd pl (aU cs off cells) rest else none
 |_,_=>none
theorem O1(pl:Nat→Option (Nat×Nat))(cs:List AV):jd pl cs []=some cs:=rfl
theorem MS(pl:Nat→Option (Nat×Nat))(cs:List AV)(i:Nat)(v:AV)(rest:List (Nat×AV)):jd pl cs ((i,v)::rest)=Gp pl cs rest (pl i) (dD v):=by
 rfl
theorem Lp(pl:Nat→Option (Nat×Nat))(cs:List AV)(rest:List (Nat×AV))(off size:Nat)(cells:List AV)(h1:cells.length=size)(h2:off+size≤cs.length):Gp pl cs rest (some (off,size)) (some cells)=jd pl (aU cs off cells) rest:=by
 subst h1;rw [Gp];exact if_pos ⟨rfl,h2⟩
theorem V1(f:Nat×RX→Nat×AV):List.map f []=[]:=rfl
theorem V2(f:Nat×RX→Nat×AV)(x:Nat×RX)(l:List (Nat×RX)):List.map f (x::l)=f x::List.map f l:=rfl
theorem amF :
 (∀ (pl:Nat→Option (Nat×Nat)) (cs:List AV),jd pl cs []=some cs) ∧
 (∀ (pl:Nat→Option (Nat×Nat)) (cs:List AV) (i:Nat) (v:AV) (rest:List (Nat×AV)),jd pl cs ((i,v)::rest)=Gp pl cs rest (pl i) (dD v)) ∧
 (∀ (pl:Nat→Option (Nat×Nat)) (cs:List AV) (rest:List (Nat×AV)) (off size:Nat) (cells:List AV),cells.length=size→off+size≤cs.length→Gp pl cs rest (some (off,size)) (some cells)=jd pl (aU cs off cells) rest) ∧
 (∀ (f:Nat×RX→Nat×AV),List.map f []=[]) ∧
 (∀ (f:Nat×RX→Nat×AV) (x:Nat×RX) (l:List (Nat×RX)),List.map f (x::l)=f x::List.map f l) ∧
 (∀ (z:List AV),zo 0 z=[]) ∧
 (∀ (n:Nat) (z:List AV),zo (n+1) z=z++zo n z) ∧
 (∀ (n:Nat) (cs:List AV),vR n 0 cs=[]) ∧
 (∀ (n k:Nat) (cs:List AV),vR n (k+1) cs=cs.take n::vR n k (cs.drop n)) ∧
 (∀ (l:List AV),l.take 0=[])∧(∀ (n:Nat) (x:AV) (l:List AV),(x::l).take (n+1)=x::l.take n) ∧
 (∀ (l:List AV),l.drop 0=l)∧(∀ (n:Nat) (x:AV) (l:List AV),(x::l).drop (n+1)=l.drop n) ∧
 (∀ (s:Str),AV.strip (.str s) = .str s)∧(∀ (k:IntKind) (n:Int),AV.strip (.int k n) = .int k n)∧(∀ (b:Bool),AV.strip (.bool b) = .bool b)∧(∀ (f:Fn) (x y:List AV),AV.strip (.fn f x y) = .fn f x y) ∧
 (∀ (t n:Nat) (r:List (List AV)),AV.strip (.slice (.own t) n r) = .slice .any n r)∧(∀ (n:Nat) (r:List (List AV)),AV.strip (.slice .any n r) = .slice .any n r)∧(∀ (n:Nat) (r:List (List AV)),AV.strip (.slice .nil n r) = .slice .nil n r)∧(∀ (n:Nat) (r:List (List AV)),AV.strip (.slice .full n r) = .slice .full n r) ∧
 (∀ (f:AV→AV),List.map f []=[])∧(∀ (f:AV→AV) (x:AV) (l:List AV),List.map f (x::l)=f x::List.map f l) ∧
 (∀ (x:Nat×Nat) (l:List (Nat×Nat)),(x::l)[0]?=some x)∧(∀ (x:Nat×Nat) (l:List (Nat×Nat)) (n:Nat),(x::l)[n+1]?=l[n]?):=
 ⟨O1,MS,Lp,V1,V2,fun _=>rfl,fun _ _=>rfl,fun _ _=>rfl,fun _ _ _=>rfl,fun _=>rfl,fun _ _ _=>rfl,fun _=>rfl,fun _ _ _=>rfl,fun _=>rfl,fun _ _=>rfl,fun _=>rfl,fun _ _ _=>rfl,fun _ _ _=>rfl,fun _ _=>rfl,fun _ _=>rfl,fun _ _=>rfl,fun _=>rfl,fun _ _ _=>rfl,fun _ _=>rfl,fun _ _ _=>rfl⟩
theorem amL :
 (∀ (v:AV) (H:List AObj) (x:Option Out),orE (some v) H x=some (.ret v,H)) ∧
 (∀ (H:List AObj) (x:Option Out),orE none H x=x) ∧
 (∀ (b:Bool) (o o':Option AV) (H:List AObj) (x:Option Out),orE (slc b o o') H x=slc b (orE o H x) (orE o' H x)) ∧
 (∀ (o o':Option AV) (H:List AObj) (x:Option Out),orE (orO o o') H x=orE o H (orE o' H x)) ∧
 (∀ (v:AV) (y:Option AV),orO (some v) y=some v) ∧
 (∀ (y:Option AV),orO none y=y) ∧
 (∀ (b:Bool) (o o' y:Option AV),orO (slc b o o') y=slc b (orO o y) (orO o' y)) ∧
 (∀ (α:Type) (F:Nat→α→Option AV) (i:Nat),fJ F i []=none) ∧
 (∀ (α:Type) (F:Nat→α→Option AV) (i:Nat) (x:α) (l:List α),fJ F i (x::l)=orO (F i x) (fJ F (i+1) l)) ∧
 (∀ (α:Type) (l:List α) (row:α→List AV),(l.map row).length=l.length) ∧
 (∀ (α:Type) (row:α→List AV) (l:List α) (i:Nat),(l.map row)[i]?=(l[i]?).map row) ∧
 (∀ (α:Type) (f:α→List AV) (x:α),(some x).map f=some (f x)) ∧
 (∀ (H0 H:List AObj),dP H0 H→∀ (L:List AObj),dP H0 (H++L)) ∧
 (∀ (H0 H:List AObj),dP H0 H→∀ (L:List AObj),(H++L).take H0.length=H.take H0.length):=
 ⟨Gl,QN,JK,SR,Gm,Gn,JL,fun _=>MR,fun _=>zT,fun _ l row=>List.length_map ..,fun _ row l i=>QM row l i,fun _ _ _=>rfl,fun _ _=>Lo,fun _ _=>O0⟩
def amA{E:bc}(M:cE bT E):=And.intro (am1 M) (And.intro am2 (And.intro am3 (And.intro am4 (And.intro am5 (And.intro amL amS)))))
def amB:=And.intro @beq_true (And.intro @beq_false (And.intro @decide_true (And.intro @decide_false (And.intro and_true (And.intro true_and (And.intro Bool.and_true (And.intro Bool.true_and (And.intro Bool.and_false (And.intro Bool.false_and (And.intro Bool.or_false (And.intro Bool.false_or (And.intro Bool.or_true (And.intro Bool.true_or (And.intro Bool.false_eq_true
 (And.intro @if_false.{1} (And.intro @if_true.{1} (And.intro Bool.not_true (And.intro Bool.not_false (And.intro Nat.le_add_right (And.intro @Nat.le_add_right_of_le (And.intro @Option.map_some.{0,0} (And.intro @Option.map_none.{0,0} (And.intro @List.nil_append.{0} (And.intro @List.append_nil.{0} (And.intro @List.map_nil.{0,0} @rias_nat)))))))))))))))))))))))))
def amC{E:bc}(M:cE bT E):=And.intro (amA M) amB
def amD:=And.intro @slc_true (And.intro @slc_false (And.intro @slc_not @fget_at))
def amG:=And.intro amF (And.intro setRow_nil (And.intro setRow_cons (And.intro @List.set_cons_zero.{0} (And.intro @List.length_cons.{0} (And.intro @List.length_nil.{0} (And.intro Nat.zero_add (And.intro Nat.le_refl (And.intro @List.all_cons.{0} (And.intro @List.all_nil.{0} @List.cons_append.{0})))))))))
end Go.Am
end
section
namespace Go.Am
open Go.RowKit Go.ChangeShapes Go.WideShapes
structure VL (K:ak) (row:List AV) (cs:List Value):Prop where
 len:row.length=cs.length
 at_:∀ (i:Nat) (av:AV),row[i]?=some av→V K av (cs.getD i undef)
theorem VL.nil(K:ak):VL K [] []:=⟨rfl,fun i av h=>by simp at h⟩
theorem VL.one{K:ak}{a:AV}{v:Value}(h:V K a v):VL K [a] [v]:=⟨rfl,fun i av hi=>by
 cases i with
 |zero=>obtain rfl:a=av:=by simpa using hi
        simpa using h
 |succ i=>simp at hi⟩
theorem VL.append{K:ak}{a b:List AV}{c d:List Value}(h:VL K a c)(h':VL K b d):VL K (a++b) (c++d):=⟨by simp [h.len,h'.len],fun i av hi=>by
 have e:=h.len
 by_cases hl:i<a.length
 ·rw [List.getElem?_append_left hl] at hi
  have:=h.at_ i av hi;rwa [List.getD_eq_getElem?_getD,List.getElem?_append_left (by omega),← List.getD_eq_getElem?_getD]
 ·rw [List.getElem?_append_right (by omega)] at hi
  have:=h'.at_ _ av hi;rwa [List.getD_eq_getElem?_getD,List.getElem?_append_right (by omega),← e,← List.getD_eq_getElem?_getD]⟩
theorem VL.vs{K:ak}{row:List AV}{cs:Array Value}(h:VL K row cs.toList):Vs K row cs:=⟨by simpa using h.len,fun i av hi=>by simpa [Array.getD_eq_getD_getElem?] using h.at_ i av hi⟩
theorem VL.agg{K:ak}{row:List AV}{cs:Array Value}(h:VL K row cs.toList):V K (.agg row) (.agg cs):=.agg _ _ h.vs.size h.vs.at_
section
variable(P:Program)(W:World)(G:Nat→Option (List AV))
def jy(t:TypeId){α:Type}(row:α→List AV)(ok:α→Prop):Prop:=
 ∀ (H:Type) (enc:TypeId×Value→H) (spare:Nat→Bool) (fuel:Nat) (cs:List Value) (x:DataW H×List MemPlace),DataW.trod enc P W 0 spare true fuel t cs=some x→(∀ n∈DataW.weights P t x.1,n≤reachBytes)→∃ a,ok a∧VL (ak.start W G) (row a) cs
def JM(fl:List (Nat×TypeId))(off w:Nat){α:Type}(row:α→List AV)(ok:α→Prop):Prop:=
 ∀ (H:Type) (enc:TypeId×Value→H) (spare:Nat→Bool) (fuel:Nat) (cs:List Value),
  (∀ (i:Nat) (f:Nat×TypeId),fl[i]?=some f→∃ x,DataW.trod enc P W 0 spare true fuel f.2 ((cs.drop f.1).take (P.cellsOf f.2))=some x∧∀ n∈DataW.weights P f.2 x.1,n≤reachBytes)→cs.length=off+w→∃ a,ok a∧VL (ak.start W G) (row a) (cs.drop off)
def fieldsOf(t:TypeId):Option (List (Nat×TypeId)):=
 match P.underlying t with
 |some (.struct fs)=>some (fs.toList.map fun f=>(f.offset,f.type))
 |_=>none
end
section
variable{P:Program}{W:World}{G:Nat→Option (List AV)}
theorem eU{t:TypeId}(ht:P.underlying t=some .string):jy P W G t aE (fun s=>s.length≤bY):=fun H enc spare fuel cs x h hw=>by
 obtain ⟨s,rfl,rfl,hs⟩:=DataW.trod_string ht h;exact ⟨s.data.toList,by simpa [reachBytes] using hw s.data.toList.length (by simp [DataW.weights]),VL.one (.str _)⟩
theorem IC{t:TypeId}(ht:P.underlying t=some (.int .i64)):jy P W G t QK I64:=fun H enc spare fuel cs x h _=>by
 obtain ⟨n,rfl,_,hn⟩:=DataW.trod_int ht h;refine ⟨n, ?_,VL.one (.int _ _)⟩;simp only [Lit.wf] at hn;revert hn;simp [IntKind.has,IntKind.min,IntKind.max,IntKind.bits,IntKind.signed,I64]
theorem kC(off:Nat):JM P W G [] off 0 (fun _:Unit=>[]) (fun _=>True):=fun H enc spare fuel cs _ hl=>⟨(),trivial,by
 rw [List.drop_of_length_le (by omega)];exact VL.nil _⟩
theorem bA{t:TypeId}{fl:List (Nat×TypeId)}{off w1 w2:Nat}{α β:Type}{row1:α→List AV}{row2:β→List AV}{ok1:α→Prop}{ok2:β→Prop}
  (h1:jy P W G t row1 ok1) (hw:P.cellsOf t=w1) (h2:JM P W G fl (off+w1) w2 row2 ok2):JM P W G ((off,t)::fl) off (w1+w2) (fun a:α×β=>row1 a.1++row2 a.2) (fun a=>ok1 a.1∧ok2 a.2):=fun H enc spare fuel cs hf hl=>by
 obtain ⟨x,hx,hxw⟩:=hf 0 (off,t) rfl;obtain ⟨a,ha,va⟩:=h1 H enc spare fuel _ x hx hxw;obtain ⟨b,hb,vb⟩:=h2 H enc spare fuel cs (fun i f hi=>hf (i+1) f (by simpa using hi)) (by omega);refine ⟨(a,b),⟨ha,hb⟩, ?_⟩;have:=va.append vb;simp only [hw] at this;have e:(cs.drop off).take w1++cs.drop (off+w1)=cs.drop off:=by rw [← List.drop_drop,List.take_append_drop]
 rwa [e] at this
theorem gV{t:TypeId}{fl:List (Nat×TypeId)}{w:Nat}{α S:Type}{row:α→List AV}{ok:α→Prop}{rowS:S→List AV}{okS:S→Prop}(hf:fieldsOf P t=some fl)(hw:P.cellsOf t=w)
  (h:JM P W G fl 0 w row ok) (φ:α→S) (hr:∀ a,rowS (φ a)=row a) (ho:∀ a,ok a→okS (φ a)):jy P W G t rowS okS:=fun H enc spare fuel cs x hx hw0=>by
 unfold fieldsOf at hf;split at hf
 ·rename_i fs ht
  simp only [Option.some.injEq] at hf;subst hf;obtain ⟨xs,n,_,rfl,hl,hxl,hat⟩:=DataW.trod_struct ht hx
  obtain ⟨a,ha,va⟩:=h H enc spare n cs (fun i f hi=>by
   rw [List.getElem?_map] at hi;cases hfi:fs.toList[i]? with
   |none=>rw [hfi] at hi;cases hi
   |some g=>
    rw [hfi] at hi;obtain rfl:(g.offset,g.type)=f:=by simpa using hi
    have hg:fs[i]?=some g:=by simpa using hfi
    have:=hat i g hg;have hlt:i<xs.length:=by rw [hxl];exact (Array.getElem?_eq_some_iff.1 hg).1
    rw [List.getElem?_eq_getElem hlt] at this;refine ⟨_,this,fun n hn=>hw0 n ?_⟩;simp only [DataW.weights,ht];exact DataW.weights_mem_each (j:=i) (t:=g.type) (d:=xs[i].1) (by simp [hfi]) (by simp [List.getElem?_eq_getElem hlt]) n hn) (by omega)
  exact ⟨φ a,ho a ha,by rw [hr];simpa using va⟩
 ·cases hf
theorem NU{α:Type}{p:Nat→α→Prop}:∀ (n:Nat),(∀ i,i<n→∃ a,p i a)→∃ l:List α,l.length=n∧∀ i a,l[i]?=some a→p i a
 |0,_=>⟨[],rfl,fun i a h=>by simp at h⟩
 |n+1,h=>by
  obtain ⟨l,h1,h2⟩:=NU n (fun i hi=>h i (by omega));obtain ⟨a,ha⟩:=h n (by omega);refine ⟨l++[a],by simp [h1],fun i b hi => ?_⟩
  by_cases hl:i<l.length
  ·rw [List.getElem?_append_left hl] at hi;exact h2 i b hi
  ·rw [List.getElem?_append_right (by omega)] at hi
   have:i-l.length=0:=by
    cases hq:i-l.length with
    |zero=>rfl
    |succ k=>rw [hq] at hi;simp at hi
   rw [this] at hi;obtain rfl:a=b:=by simpa using hi
   have:i=n:=by omega
   subst this;exact ha
theorem s9{n:Nat}(h:Nat.blt 0 n=true):0<n:=by rwa [Nat.blt_eq] at h
theorem Gq{H:Type}{P:Program}{e:TypeId}{n:Nat}:∀ {l:List (DataW H)}{d:DataW H},d∈l→n∈DataW.weights P e d→n∈DataW.weightsAll P e l
 |x::l,d,hd,hn=>by
  simp only [DataW.weightsAll,List.mem_append];rcases List.mem_cons.1 hd with rfl | h
  ·exact .inl hn
  ·exact .inr (Gq h hn)
theorem JN{t e:TypeId}{α:Type}{row:α→List AV}{ok:α→Prop}{sz:Nat}(ht:P.underlying t=some (.slice e))(hsz:P.cellsOf e=sz)(hpos:0<sz)(hby:0<P.bytesOf e)(hrow:∀ a,(row a).length=sz)(he:jy P W G e row ok) :
  jy P W G t (fun s:Sl α=>[.slice s.tag sz (s.l.map row)]) (fun s=>s.ok 0 ok∧(s.tag = .nil∧s.l=[]∨s.tag = .some)):=fun H enc spare fuel cs x h hw0=>by
 rcases Go.Deep.open_slice ht h with ⟨rfl,_⟩ | ⟨a,len,cap,m,n,D,Pl,rfl,hb,hl,hcap,hm,rfl,hel⟩
 ·exact ⟨⟨.nil,[]⟩,⟨⟨trivial,by simp,fun x hx=>by cases hx⟩,.inl ⟨rfl,rfl⟩⟩,VL.one (.slice0 _ _ _ (by simp))⟩
 ·rw [hsz] at hel
  have hlm:len≤m:=by rw [hm];split<;>omega
  have hww:∀ i,i<m→∀ n∈DataW.weights P e (D i),n≤reachBytes:=fun i hi n hn=>hw0 n (by
   simp only [DataW.weights,ht,List.mem_cons,List.mem_append];right
   by_cases hlt:i<len
   ·left;exact Gq (List.mem_map.2 ⟨i,List.mem_range.2 hlt,rfl⟩) hn
   ·right;exact Gq (List.mem_map.2 ⟨i-len,List.mem_range.2 (by omega),by rw [show len+(i-len)=i by omega]⟩) hn)
  have hlb:len≤reachBytes:=by
   have:=hw0 ((((List.range len).map D).length+((List.range (m-len)).map fun j=>D (len+j)).length)*P.bytesOf e) (by simp only [DataW.weights,ht];exact List.mem_cons_self);simp only [List.length_map,List.length_range] at this;have h2:len*1≤(len+(m-len))*P.bytesOf e:=Nat.mul_le_mul (by omega) hby;omega
  obtain ⟨l,hll,hat⟩:=NU (α:=α) (p:=fun i a'=>ok a'∧∃ cs',W.cells? 0 (a.add (i*sz)) sz=some cs'∧VL (ak.start W G) (row a') cs') len (fun i hi=>by
   obtain ⟨cs',h1,h2⟩:=hel i (by omega);obtain ⟨a',h3,h4⟩:=he H enc spare n cs' _ h2 (hww i (by omega));exact ⟨a',h3,cs',h1,h4⟩)
  refine ⟨⟨.some,l⟩,⟨⟨trivial,by rw [hll];exact hlb,fun x hx => ?_⟩,.inr rfl⟩,VL.one ?_⟩
  ·obtain ⟨i,hi⟩:=List.getElem?_of_mem hx
   exact (hat i x hi).1
  ·obtain ⟨b,o,spot⟩:=a
   cases l with
   |nil=>
    have:len=0:=by simpa using hll.symm
    subst this;exact .sliceAny .some _ _ _ (.inr ⟨rfl,by simp⟩)
   |cons a0 l0=>
    obtain ⟨_,cs0,hc0,hv0⟩:=hat 0 a0 rfl;obtain ⟨_,hcl,hcat⟩:=World.cells?_some hc0
    have hsp:spot=none:=by
     have h0:=hcat 0 hpos;rw [List.getElem?_eq_getElem (by omega)] at h0;simpa [Addr.add] using World.cell?_spot h0
    subst hsp;have hlen:len=((a0::l0).map row).length:=by simpa using hll.symm
    rw [hlen]
    have key:∀ (i:Nat) (r:List AV),((a0::l0).map row)[i]?=some r→∃ cs',VL (ak.start W G) r cs'∧∀ j,j<sz→W.cell? ⟨b,o+i*sz+j,none⟩=cs'[j]? := fun i r hi=>by
     rw [List.getElem?_map] at hi;cases hai:(a0::l0)[i]? with
     |none=>rw [hai] at hi;cases hi
     |some ai=>
      rw [hai] at hi;obtain rfl:row ai=r:=by simpa using hi
      obtain ⟨_,cs',hc,hv⟩:=hat i ai hai;obtain ⟨_,hcl',hcat'⟩:=World.cells?_some hc;refine ⟨cs',hv,fun j hj => ?_⟩;rw [← hcat' j hj];congr 1;unfold Addr.add
      by_cases h1:i*sz=0<;>by_cases h2:j=0<;>simp [h1,h2,Nat.add_assoc]
    refine .slice .some sz _ b o cap (fun i j=>(W.cell? ⟨b,o+i*sz+j,none⟩).getD undef) (fun r hr => ?_) (fun i j r av hi hj => ?_) (fun i j r av hi hj => ?_) (by rw [← hlen];exact hl) trivial
    ·obtain ⟨a',_,rfl⟩:=List.mem_map.1 hr
     exact hrow a'
    ·obtain ⟨cs',hv,hc⟩:=key i r hi
     have hjl:j<r.length:=(List.getElem?_eq_some_iff.1 hj).1
     have hrl:r.length=sz:=by
      obtain ⟨a',_,rfl⟩:=List.mem_map.1 (List.mem_of_getElem? hi);exact hrow a'
     show W.cell? _=_;have hcj:=hc j (by omega);rw [hcj,List.getElem?_eq_getElem (by rw [← hv.len];omega)];rfl
    ·obtain ⟨cs',hv,hc⟩:=key i r hi
     have hjl:j<r.length:=(List.getElem?_eq_some_iff.1 hj).1
     have hrl:r.length=sz:=by
      obtain ⟨a',_,rfl⟩:=List.mem_map.1 (List.mem_of_getElem? hi);exact hrow a'
     have:=hv.at_ j av hj;rw [hc j (by omega),← List.getD_eq_getElem?_getD];exact this
theorem MT{t:TypeId}{α:Type}{row:α→List AV}{ok ok':α→Prop}(h:jy P W G t row ok)(hm:∀ a,ok a→ok' a):jy P W G t row ok':=fun H enc spare fuel cs x hh hw=>
 let ⟨a,h1,h2⟩:=h H enc spare fuel cs x hh hw;⟨a,hm a h1,h2⟩
theorem jz{t e:TypeId}{α:Type}{row:α→List AV}{ok:α→Prop}{sz:Nat}(ht:P.underlying t=some (.slice e))(hsz:P.cellsOf e=sz)(hpos:0<sz)(hby:0<P.bytesOf e)(hrow:∀ a,(row a).length=sz)(he:jy P W G e row ok) :
  jy P W G t (fun s:Sl α=>[.slice s.tag sz (s.l.map row)]) (fun s=>s.ok 0 ok):=MT (JN ht hsz hpos hby hrow he) fun _ h=>h.1
theorem SS{t:TypeId}{fl:List (Nat×TypeId)}{r:Reach}{b:Nat}{v:Value}(hf:fieldsOf P t=some fl)(h:Value.okWide P W r b t v):∃ cs,v = .agg cs:=by
 unfold fieldsOf at hf;split at hf
 ·rename_i fs ht
  simp only [Value.okWide,ht] at h;obtain ⟨cs,rfl,_⟩:=h;exact ⟨cs,rfl⟩
 ·cases hf
theorem QO{H:Type}{enc:TypeId×Value→H}{spare:Nat→Bool}{t:TypeId}{α:Type}{row:α→List AV}{ok:α→Prop}(ho:jy P W G t row ok){v:Value}{d:DataW H}{ps:List MemPlace}
  (h:DataW.Trod enc P W 0 spare true t v d ps) (hw:∀ n∈DataW.weights P t d,n≤reachBytes):∃ a,ok a∧VL (ak.start W G) (row a) v.cells.toList:=by
 obtain ⟨fuel,hf⟩:=h;exact ho H enc spare fuel _ _ hf hw
end
end Go.Am
end
section
namespace Go.Am
open Go.RowKit
def jj:FuncId:=4
def iO:FuncId:=5
def cb:FuncId:=6
def nP:FuncId:=7
def qq:FuncId:=8
def nQ:FuncId:=9
def qs:FuncId:=10
def jA:FuncId:=11
def jK:FuncId:=12
def eV:FuncId:=13
def JO:FuncId:=14
def jn:FuncId:=15
def eu:FuncId:=16
def qt:FuncId:=17
def qu:FuncId:=18
def ry:FuncId:=19
def rz:FuncId:=20
def lM:FuncId:=21
def bb:FuncId:=22
def fU:FuncId:=23
def fy:FuncId:=24
def iP:FuncId:=25
def dB:FuncId:=26
def cw:FuncId:=27
def jZ:FuncId:=28
def iQ:FuncId:=29
def vh:FuncId:=30
def gW:FuncId:=31
def oc:FuncId:=32
def gX:FuncId:=33
def iR:FuncId:=34
def od:FuncId:=35
def gY:FuncId:=36
def iS:FuncId:=37
def oe:FuncId:=38
def gZ:FuncId:=39
def iT:FuncId:=40
def og:FuncId:=41
def hO:FuncId:=42
def iU:FuncId:=43
def oh:FuncId:=44
def iV:FuncId:=45
def jB:FuncId:=46
def HF:FuncId:=47
def yJ:FuncId:=48
def iE:FuncId:=49
def al:FuncId:=50
def nR:FuncId:=51
def cj:FuncId:=52
def iA:FuncId:=53
def cA:FuncId:=54
def kD:FuncId:=55
def gm:FuncId:=56
def cU:FuncId:=57
def py:FuncId:=58
def oR:FuncId:=59
def oS:FuncId:=60
def iW:FuncId:=61
def hU:FuncId:=62
def aF:FuncId:=63
def pz:FuncId:=64
def dI:FuncId:=65
def j0:FuncId:=66
def ib:FuncId:=67
def bZ:FuncId:=68
def pA:FuncId:=69
def cG:FuncId:=70
def gn:FuncId:=71
def dS:FuncId:=72
def cH:FuncId:=73
def gp:FuncId:=74
def iX:FuncId:=75
def gq:FuncId:=76
def fV:FuncId:=77
def fA:FuncId:=78
def jo:FuncId:=79
def q6:FuncId:=80
def cI:FuncId:=81
def gr:FuncId:=82
def cQ:FuncId:=83
def gu:FuncId:=84
def vi:FuncId:=85
def bL:FuncId:=86
def gv:FuncId:=87
def j4:FuncId:=88
def mO:FuncId:=89
def qv:FuncId:=90
def xw:FuncId:=91
def zV:FuncId:=92
def u0:FuncId:=93
def jq:FuncId:=94
def jr:FuncId:=95
def js:FuncId:=96
def de:FuncId:=97
def jt:FuncId:=98
def ju:FuncId:=99
def fG:FuncId:=100
def j6:FuncId:=101
def iw:FuncId:=102
def gI:FuncId:=103
def fH:FuncId:=104
def jv:FuncId:=105
def gJ:FuncId:=106
def kE:FuncId:=107
def jC:FuncId:=108
def lN:FuncId:=109
def oJ:FuncId:=110
def lO:FuncId:=111
def qw:FuncId:=112
def dJ:FuncId:=113
def ie:FuncId:=114
def ae:FuncId:=115
def eG:FuncId:=116
def mP:FuncId:=117
def j7:FuncId:=118
def bC:FuncId:=119
def gK:FuncId:=120
def bD:FuncId:=121
def iY:FuncId:=122
def fW:FuncId:=123
def fB:FuncId:=124
def jD:FuncId:=125
def xx:FuncId:=126
def b7:FuncId:=127
def cq:FuncId:=128
def bV:FuncId:=129
def om:FuncId:=130
def ml:FuncId:=131
def bB:FuncId:=132
def tc:FuncId:=133
def xy:FuncId:=134
def Cz:FuncId:=135
def jE:FuncId:=136
def je:FuncId:=137
def c6:FuncId:=138
def du:FuncId:=139
def j8:FuncId:=140
def vj:FuncId:=141
def rA:FuncId:=142
def eW:FuncId:=143
def kF:FuncId:=144
def vk:FuncId:=145
def si:FuncId:=146
def qj:FuncId:=147
def rB:FuncId:=148
def mQ:FuncId:=149
def cr:FuncId:=150
def AT:FuncId:=151
def yK:FuncId:=152
def xz:FuncId:=153
def np:FuncId:=154
def cS:FuncId:=155
def j9:FuncId:=156
def tN:FuncId:=157
def lP:FuncId:=158
def wa:FuncId:=159
def CA:FuncId:=160
def iF:FuncId:=161
def cK:FuncId:=162
def sj:FuncId:=163
def CB:FuncId:=164
def sk:FuncId:=165
def qk:FuncId:=166
def uz:FuncId:=167
def pB:FuncId:=168
def pC:FuncId:=169
def cJ:FuncId:=170
def o1:FuncId:=171
def td:FuncId:=172
def yL:FuncId:=173
def zW:FuncId:=174
def AU:FuncId:=175
def xA:FuncId:=176
def th:FuncId:=177
def tj:FuncId:=178
def AW:FuncId:=179
def sn:FuncId:=180
def kZ:FuncId:=181
def CC:FuncId:=182
def br:FuncId:=183
def ql:FuncId:=184
def ID:TypeId:=3
def dh:TypeId:=4
def bM:TypeId:=5
def bg:TypeId:=9
def pD:TypeId:=22
def pE:TypeId:=23
def pF:TypeId:=24
def pG:TypeId:=25
def q7:TypeId:=26
def ah:TypeId:=28
def ek:TypeId:=39
def bw:TypeId:=41
def u1:TypeId:=43
def bU:TypeId:=45
def q8:TypeId:=46
def aG:TypeId:=48
def bK:TypeId:=50
def kG:TypeId:=51
def aS:TypeId:=53
def bn:TypeId:=55
def cL:TypeId:=57
def dE:TypeId:=59
def ct:TypeId:=63
def ca:TypeId:=74
def jL:TypeId:=75
def aD:TypeId:=76
def bo:TypeId:=84
def c7:TypeId:=97
def cV:TypeId:=104
def di:TypeId:=107
def CD:TypeId:=133
def MU:TypeId:=183
def MV:TypeId:=197
def Bz:TypeId:=203
def bE:TypeId:=207
def eX:TypeId:=210
def tO:TypeId:=217
def xB:TypeId:=222
def zX:TypeId:=224
end Go.Am
end
