import Derived.Calls
import Derived.Below
import Derived.Sort.LoopGhostIn
import Derived.ScopeJumps
import Derived.Laws.IdiomCopy
import Derived.Laws.Slices
import Derived.Laws.Strings
import Derived.Laws.Strings2
import Derived.Laws.StructEq
import Derived.Lib.SmallJoins
import Derived.Deep.AppendSrc
import Derived.Laws.MakeOwn
import Derived.Laws.IdiomStrings
import Derived.Laws.BytesArg
import Derived.MapKept
/-
  Part 1 of the tool: an abstract machine over the model, proved sound, and what it says of the functions that the law reaches. Condition: none but those that each theorem names.
-/
set_option linter.unusedVariables false
set_option linter.unusedSimpArgs false
set_option maxRecDepth 100000
set_option maxHeartbeats 4000000
namespace Go.Am
open Go.RowKit
set_option linter.defProp false
def apy:Lean.Meta.Simp.Config:={maxSteps:=3000000,maxDischargeDepth:=6,contextual:=true,implicitDefEqProofs:=false}
def al3:=@List.getElem?_eq_some_iff
def al4:=@List.getElem?_eq_getElem
def al5:=@And.intro
def al6:=@List.drop_eq_getElem_cons
def al7:=@List.getElem?_append_left
def al8:=@List.length_append
def al9:=@List.drop_length
def ama:=@List.length_map
def amb:=@Bool.and_eq_true
def amc:=@List.getElem_mem
def amd:=@Array.getD_eq_getD_getElem?
def ame:=@Nat.lt_irrefl
def amf:=@List.drop_zero
def amg:=@beq_eq_false_iff_ne
def amh:=@Array.getElem?_eq_some_iff
def ami:=@List.getElem?_set_ne
def amj:=@Int.ofNat_zero
def amk:=@List.length_cons
def aml:=@List.mem_of_getElem?
def amm:=@List.getElem?_append_right
def amn:=@Option.map_eq_some_iff
def amo:=@Option.some.injEq
def amp:=@Nat.le_refl
def amq:=@decide_eq_false
def amr:=@List.append_assoc
def ams:=@Nat.le_trans
def amt:=@List.append_nil
def amu:=@decide_eq_true
def amv:=@Nat.eq_of_beq_eq_true
def amw:=@List.length_nil
def amx:=@List.getElem?_cons_zero
def amy:=@List.getElem?_set_self
def amz:=@Array.getElem?_eq_getElem
def amE:=@List.getElem?_take
def amH:=@List.nil_append
def amI:=@List.all_eq_true
def amJ:=@Nat.zero_add
def amK:=@List.getElem?_map
def amM:=@List.getElem?_drop
def amN:=@List.map_cons
def amO:=@Option.map_some
def amP:=@List.length_singleton
def amQ:=@Bool.false_eq_true
def amR:=@Nat.mul_le_mul_right
def amT:=@Nat.add_mul
def amU:=@beq_iff_eq
def amV:=@beq_self_eq_true
def amW:=@List.cons_append
def amX:=@List.getElem?_cons_succ
def amY:=@Bool.true_and
def am0:=@List.getElem?_eq_none
def am7:=@Nat.succ_mul
def am8:=@List.take_of_length_le
def am9:=@List.getElem?_take_of_lt
def ana:=@decide_eq_true_eq
def anb:=@Nat.lt_of_lt_of_le
def anc:=@Bool.and_true
def ane:=@Nat.lt_succ_self
def anf:=@Array.getElem?_setIfInBounds_ne
def ang:=@Array.getElem?_modify
def anh:=@Classical.choose_spec
def ani:=@List.mem_iff_getElem?
def anj:=@decide_false
def ank:=@List.mem_cons
def anl:=@Bool.false_and
def anm:=@List.map_nil
def ann:=@Nat.add_zero
def ano:=@decide_true
def anp:=@decide_eq_decide
def anq:=@List.all_cons
def anr:=@List.any_cons
def ans:=@Array.getElem?_append_left
def ant:=@beq_false
def anu:=@List.mem_of_mem_drop
def anv:=@Nat.blt_eq
def anw:=@Bool.eq_iff_iff
def anx:=@List.foldl_cons
def anz:=@Bool.and_false
def anA:=@Nat.le_of_not_lt
def anB:=@List.take_append_of_le_length
def anC:=@Nat.zero_le
def anD:=@List.mem_map
def anE:=@List.set_append_right
def anF:=@Bool.true_or
def anG:=@List.set_cons_zero
def anH:=@Bool.false_or
def anI:=@List.getElem?_of_mem
def anJ:=@List.length_drop
def anK:=@List.getD_eq_getElem?_getD
def anL:=@beq_true
def anM:=@Prod.mk.injEq
def anN:=@Bool.or_eq_true
def anO:=@Nat.le_of_ble_eq_true
def anP:=@List.map_append
def anQ:=@List.take_length
def anR:=@Bool.or_eq_false_iff
def anS:=@Bool.not_true
def anT:=@decide_eq_false_iff_not
def anU:=@List.take_zero
def anV:=@List.mem_range
def anW:=@Bool.not_false
def anX:=@Bool.or_true
def anY:=@List.foldl_nil
def anZ:=@List.getElem?_set
def an0:=@Nat.le_max_right
def an1:=@Nat.sub_self
def an2:=@List.mem_replicate
def an3:=@Array.getElem?_toList
def an4:=@Bool.or_assoc
def an5:=@List.ext_getElem?
def an6:=@Nat.le_max_left
def an7:=@List.length_take
def an8:=@Array.getElem?_eq_none
def an9:=@List.drop_of_length_le
def aoa:=@List.mem_singleton
def aob:=@Nat.mul_comm
def aoc:=@List.mem_append
def aod:=@Nat.mul_one
def aoe:=@List.take_left'
def aof:=@Nat.zero_mul
def aog:=@List.count_cons_of_ne
def aoh:=@Int.tdiv_eq_ediv_of_nonneg
def aoi:=@List.drop_eq_nil_iff
def aoj:=@Option.isNone_iff_eq_none
def aok:=@List.mem_of_find?_eq_some
def aol:=@Bool.eq_false_or_eq_true
def aom:=@Nat.add_assoc
def aon:=@Option.map_none
def aoo:=@Bool.or_false
def aoq:=@List.find?_some
def aor:=@UInt8.toNat_inj
def aos:=@Array.size_append
def aot:=@List.drop_drop
def aou:=@List.mapM_cons
def aov:=@List.all_nil
def aow:=@List.any_nil
def aox:=@Nat.ble_eq_true_of_le
def aoy:=@Nat.mod_eq_of_lt
def aoz:=@List.mem_cons_of_mem
def aoA:=@Nat.not_lt_zero
def aoB:=@List.getElem?_range
def aoC:=@Array.length_toList
def aoD:=@List.drop_succ_cons
def aoE:=@List.take_succ_cons
def aoF:=@List.drop_left'
def aoG:=@List.replicate_succ
def aoH:=@Nat.le_of_lt
def aoI:=@Nat.lt_or_ge
def aoJ:=@List.map_map
def aoK:=@Nat.pos_of_ne_zero
def aoL:=@Array.mapM_eq_mapM_toList
def aoM:=@List.getElem?_zip_eq_some
def aoN:=@Nat.lt_trichotomy
def aoO:=@List.flatten_cons
def aoP:=@Bool.not_eq_true'
def aoQ:=@List.any_eq_false
def aoR:=@Option.isSome_map
def aoS:=@ByteArray.ext
def aoT:=@List.length_eq_zero_iff
def aoU:=@Option.getD_some
def aoV:=@Nat.le_add_right
def aoW:=@Nat.mul_add_mod
def aoX:=@Nat.div_lt_iff_lt_mul
def aoY:=@List.length_set
def aoZ:=@Nat.min_eq_left
def ao0:=@Array.getElem?_append
def ao1:=@Option.some.inj
def ao2:=@List.mem_filter
def ao3:=@List.take_append_drop
def ao4:=@List.find?_cons
def ao5:=@Array.getElem?_range
def ao6:=@Array.getElem?_push
def ao7:=@List.length_pos_iff
def ao8:=@List.length_flatten
def ao9:=@List.dropWhile_cons
def apa:=@Nat.le_succ
def apb:=@Nat.add_sub_cancel'
def apc:=@Nat.eq_zero_or_pos
def apd:=@Array.getElem?_map
def ape:=@Option.isSome_none
def apf:=@List.mem_cons_self
def apg:=@Bool.not_eq_false'
def aph:=@List.set_cons_succ
def api:=@List.count_eq_zero
def apj:=@Int.natCast_nonneg
def apk:=@Array.ext'
def apl:=@List.size_toArray
def apm:=@Int.toNat_natCast
def apn:=@List.take_add_one
def apo:=@List.set_set
def apu:=@Nat.one_mul
def apv:=@Nat.div_pos
def apw:=@Subtype.ext
def apx:=@Nat.beq_eq
inductive Tag where
 |any
 |full
 |nil
 |some
 |own (t:Nat)
 deriving DecidableEq,Inhabited
inductive AV where
 |ZW
 |bool (b:Bool)
 |int (k:IntKind) (n:Int)
 |str (s:List UInt8)
 |ZB
 |ptr (id off:Nat)
 |Zu (esz:Nat) (rows:List (List AV)) (i off:Nat)
 |slice (tag:Tag) (esz:Nat) (rows:List (List AV))
 |Za (id off len esz:Nat) (room:Bool)
 |ZG
 |map (id:Nat)
 |Z2 (es:List (AV×AV))
 |sdp (t:Nat) (rows:List (List AV))
 |fn (f:Fn) (first captured:List AV)
 |Zw
 |iface (t:TypeId) (v:AV)
 |Zr
 |agg (cs:List AV)
 |tuple (vs:List AV)
 deriving Inhabited
inductive Y4 where
 |dead
 |cells (cs:List AV) (T:TypeId)
 |tok (front:Nat) (T:TypeId)
 |aaj (s:List UInt8) (pos:Nat)
 |map (es:List (AV×AV))
 deriving Inhabited
def Y4.live:Y4→Bool
 |.cells _ _ | .aaj _ _ | .map _=>true
 |_=>false
inductive Env where
 |leaf
 |node (v:AV) (l r:Env)
 deriving Inhabited
def fh:Env→Nat→AV
 |.leaf,_=>.ZW
 |.node v l r,n=>match n with
  |0=>v
  |m+1=>match Nat.beq (m % 2) 0 with
   |true=>fh l (m / 2)
   |false=>fh r (m / 2)
def yj:Nat→Env→Nat→AV→Env
 |0,a,_,_=>a
 |_+1,.leaf,0,v=>.node v .leaf .leaf
 |f+1,.leaf,m+1,v=>match Nat.beq (m % 2) 0 with
  |true=>.node .ZW (yj f .leaf (m / 2) v) .leaf
  |false=>.node .ZW .leaf (yj f .leaf (m / 2) v)
 |_+1,.node _ l r,0,v=>.node v l r
 |f+1,.node u l r,m+1,v=>match Nat.beq (m % 2) 0 with
  |true=>.node u (yj f l (m / 2) v) r
  |false=>.node u l (yj f r (m / 2) v)
def qx(a:Env)(n:Nat)(v:AV):Env:=yj (n+1) a n v
theorem JZ:∀ (f:Nat) (a:Env) (n:Nat) (v:AV) (m:Nat),n<f→fh (yj f a n v) m=if m=n then v else fh a m
 |0,_,_,_,_,h=>absurd h (aoA _)
 |f+1,a,n,v,m,h=>by
  have half:∀ k:Nat,(Nat.beq (k % 2) 0)=decide (k % 2=0):=fun k=>by rw [anw];simp
  cases n with
  |zero=>
   cases a<;>cases m<;>simp [yj,fh]
   all_goals (try (split<;>simp [fh]))
  |succ n=>
   have ih:=fun (b:Env) (k:Nat)=>JZ f b (n / 2) v k (by omega)
   cases m with
   |zero=>
    cases a<;>simp only [yj,half]<;>split<;>simp [fh]
   |succ m=>
    cases a with
    |leaf=>
     simp only [yj,half]
     by_cases hn:n % 2=0<;>by_cases hm:m % 2=0<;>simp [fh,half,hn,hm,ih]
     ·have:(m / 2=n / 2)↔(m=n):=by omega
      simp [this]
     ·intro e;subst e;exact absurd hn hm
     ·intro e;subst e;exact absurd hm hn
     ·have:(m / 2=n / 2)↔(m=n):=by omega
      simp [this]
    |node u l r=>
     simp only [yj,half]
     by_cases hn:n % 2=0<;>by_cases hm:m % 2=0<;>simp [fh,half,hn,hm,ih]
     ·have:(m / 2=n / 2)↔(m=n):=by omega
      simp [this]
     ·intro e;subst e;exact absurd hn hm
     ·intro e;subst e;exact absurd hm hn
     ·have:(m / 2=n / 2)↔(m=n):=by omega
      simp [this]
theorem oB(a:Env)(n:Nat)(v:AV)(m:Nat):fh (qx a n v) m=if m=n then v else fh a m:=JZ (n+1) a n v m (ane n)
def ae:Env→Nat→List AV→Env
 |a,_,[]=>a
 |a,n,v::l=>ae (qx a n v) (n+1) l
def env(args:List AV):Env:=ae .leaf 0 args
theorem Hn:∀ (l:List AV) (a:Env) (n m:Nat),fh (ae a n l) m=if n≤m then (match l[m-n]? with | some v=>v | none=>fh a m) else fh a m
 |[],a,n,m=>by simp [ae]
 |v::l,a,n,m=>by
  rw [ae,Hn l]
  by_cases h1:n+1≤m
  ·rw [if_pos h1,if_pos (by omega)]
   have:m-n=(m-(n+1))+1:=by omega
   rw [this,amX,oB,if_neg (by omega)]
  ·rw [if_neg h1,oB]
   by_cases h2:m=n
   ·subst h2;simp
   ·rw [if_neg h2,if_neg (by omega)]
theorem EG(m:Nat):fh .leaf m = .ZW:=rfl
theorem RD(l:List AV)(m:Nat):fh (env l) m=(l[m]?).getD .ZW:=by
 rw [env,Hn,if_pos (anC _),Nat.sub_zero,EG];cases l[m]? <;> rfl
def Wb:Obj→Bool
 |.cells .. | .map .. => false
 |_=>true
inductive Shp where
 |rows (n:Nat)
 |ac0 (es:Array MapEntry)
 |fix (o:Obj)
def J0(w:World)(b:Nat):Shp→Prop
 |.rows n => ∃ vs T f,w.heap[b]?=some (.cells vs T f)∧vs.size=n
 |.ac0 es => ∃ c,w.heap[b]?=some (.map es c)
 |.fix o=>w.heap[b]?=some o∧Wb o=true
structure aC where
 ZO:Nat→Nat→Option Value
 own:Nat→Option (Nat×Nat)
 loc:List Nat
 base:Nat→Prop
 w0:World
 ZC:Nat→Option (List AV)
 shape:Nat→Option Shp
structure aC.le (K K':aC):Prop where
 ZO:∀ b o v,K.ZO b o=some v→K'.ZO b o=some v
 own:∀ b x,K.own b=some x→K'.own b=some x
 loc:∀ (i b:Nat),K.loc[i]?=some b→K'.loc[i]?=some b
 base:K'.base=K.base
 w0:K'.w0=K.w0
 ZC:K'.ZC=K.ZC
 shape:∀ b s,K.shape b=some s→K'.shape b=some s
 low:∀ b,¬ K.base b→(∀ o,K'.ZO b o=K.ZO b o)∧K'.shape b=K.shape b
theorem aC.le.refl(K:aC):K.le K:=⟨fun _ _ _ h=>h,fun _ _ h=>h,fun _ _ h=>h,rfl,rfl,rfl,fun _ _ h=>h,fun _ _=>⟨fun _=>rfl,rfl⟩⟩
theorem aC.le.trans{K K' K'':aC}(h:K.le K')(h':K'.le K''):K.le K'':=
 ⟨fun _ _ _ x=>h'.ZO _ _ _ (h.ZO _ _ _ x),fun _ _ x=>h'.own _ _ (h.own _ _ x),fun _ _ x=>h'.loc _ _ (h.loc _ _ x),h'.base.trans h.base,h'.w0.trans h.w0,h'.ZC.trans h.ZC,fun _ _ x=>h'.shape _ _ (h.shape _ _ x),fun b hb=>
  have h2:=h'.low b (by rw [h.base];exact hb);have h1:=h.low b hb
  ⟨fun o=>(h2.1 o).trans (h1.1 o),h2.2.trans h1.2⟩⟩
theorem aC.le.lt{K K':aC}(h:K.le K'){i:Nat}(hi:i<K.loc.length):i<K'.loc.length:=
 (al3.1 (h.loc i _ (al4 hi))).1
def Ho:List (List AV)→Bool
 |[]=>true
 |[.int _ _]::_=>true
 |_=>false
def Cy(K:aC)(tag:Tag)(b o esz:Nat)(rows:List (List AV))(cap:Nat):Prop:=
 match tag with
 |.any=>True
 |.full=>cap=rows.length
 |.nil=>False
 |.some=>True
 |.own t=>t<K.loc.length∧((cap=rows.length∧Ho rows=false)∨(o=0∧K.own b=some (t,cap*esz)))
theorem Cy.mono{K K':aC}(h:K.le K'){tag:Tag}{b o esz:Nat}{rows:List (List AV)}{cap:Nat}(ht:Cy K tag b o esz rows cap):Cy K' tag b o esz rows cap:=by
 cases tag with
 |any=>trivial
 |some=>trivial
 |full=>exact ht
 |nil=>exact ht
 |own t=>exact ⟨h.lt ht.1,ht.2.imp id fun h2=>⟨h2.1,h.own _ _ h2.2⟩⟩
inductive V (K:aC):AV→Value→Prop where
 |ZW (v:Value):V K .ZW v
 |bool (b:Bool):V K (.bool b) (.bool b)
 |int (k:IntKind) (n:Int):V K (.int k n) (.int k n)
 |str (s:List UInt8):V K (.str s) (.string ⟨s.toArray⟩)
 |ZB:V K .ZB (.pointer none)
 |ptr (id off b:Nat) (h:K.loc[id]?=some b):V K (.ptr id off) (.pointer (some ⟨b,off,none⟩))
 |Zu (esz:Nat) (rows:List (List AV)) (i off b o:Nat) (vs:Nat→Nat→Value) (hl:∀ r,r∈rows→r.length=esz)
   (hi:∀ i j r av,rows[i]?=some r→r[j]?=some av→K.ZO b (o+i*esz+j)=some (vs i j))
   (hv:∀ i j r av,rows[i]?=some r→r[j]?=some av→V K av (vs i j)) :
   V K (.Zu esz rows i off) (.pointer (some ⟨b,o+i*esz+off,none⟩))
 |Zo (tag:Tag) (esz:Nat) (a:Option Addr) (h:(∀ t,tag = .own t→t<K.loc.length∧a=none)∧(tag = .nil→a=none)∧tag≠.some):V K (.slice tag esz []) (.slice a 0 0)
 |Zk (tag:Tag) (esz:Nat) (a:Option Addr) (cap:Nat) (h:tag = .any∨(tag = .some∧a≠none)):V K (.slice tag esz []) (.slice a 0 cap)
 |slice (tag:Tag) (esz:Nat) (rows:List (List AV)) (b o cap:Nat) (vs:Nat→Nat→Value) (hl:∀ r,r∈rows→r.length=esz)
   (hi:∀ i j r av,rows[i]?=some r→r[j]?=some av→K.ZO b (o+i*esz+j)=some (vs i j))
   (hv:∀ i j r av,rows[i]?=some r→r[j]?=some av→V K av (vs i j))
   (hc:rows.length≤cap) (ht:Cy K tag b o esz rows cap) :
   V K (.slice tag esz rows) (.slice (some ⟨b,o,none⟩) rows.length cap)
 |Za (id off len esz:Nat) (room:Bool) (b cap:Nat) (h:K.loc[id]?=some b) (hc:len≤cap) (hs:room=true→∃ n,K.shape b=some (.rows n)∧off+cap*esz=n):V K (.Za id off len esz room) (.slice (some ⟨b,off,none⟩) len cap)
 |ZG:V K .ZG (.map none)
 |map (id b:Nat) (h:K.loc[id]?=some b):V K (.map id) (.map (some b))
 |Z2 (es:List (AV×AV)) (b:Nat) (mes:Array MapEntry) (h:K.shape b=some (.ac0 mes)) (hl:es.length=mes.size)
   (hk:∀ (i:Nat) (k v:AV),es[i]?=some (k,v)→V K k (mes.getD i ⟨undef,undef,0⟩).key) (hv:∀ (i:Nat) (k v:AV),es[i]?=some (k,v)→V K v (mes.getD i ⟨undef,undef,0⟩).val) :
   V K (.Z2 es) (.map (some b))
 |aba (t:Nat) (p:Option Addr):V K (.sdp t []) (.pointer p)
 |sdp (t:Nat) (rows:List (List AV)) (b cap:Nat) (vs:Nat→Nat→Value) (htl:t<K.loc.length) (ho:K.own b=some (t,cap)) (hl:∀ r,r∈rows→r.length=1)
   (hi:∀ i j r av,rows[i]?=some r→r[j]?=some av→K.ZO b (0+i*1+j)=some (vs i j))
   (hv:∀ i j r av,rows[i]?=some r→r[j]?=some av→V K av (vs i j)) (hc:rows.length≤cap):V K (.sdp t rows) (.pointer (some ⟨b,0,none⟩))
 |fn (f:Fn) (first captured:List AV) (vs us:Array Value) (h1:first.length=vs.size) (h2:captured.length=us.size)
   (hv:∀ i av,first[i]?=some av→V K av (vs.getD i undef)) (hu:∀ i av,captured[i]?=some av→V K av (us.getD i undef)) :
   V K (.fn f first captured) (.func f vs us)
 |Zw:V K .Zw .nilFunc
 |iface (t:TypeId) (v:AV) (x:Value) (h:V K v x):V K (.iface t v) (.iface t x)
 |Zr:V K .Zr .nilIface
 |agg (cs:List AV) (vs:Array Value) (h1:cs.length=vs.size) (hv:∀ i av,cs[i]?=some av→V K av (vs.getD i undef)):V K (.agg cs) (.agg vs)
 |tuple (cs:List AV) (vs:Array Value) (h1:cs.length=vs.size) (hv:∀ i av,cs[i]?=some av→V K av (vs.getD i undef)):V K (.tuple cs) (.tuple vs)
theorem V.mono{K K':aC}(h:K.le K'){a:AV}{v:Value}(hv:V K a v):V K' a v:=by
 induction hv with
 |ZW v=>exact .ZW v
 |bool b=>exact .bool b
 |int k n=>exact .int k n
 |str s=>exact .str s
 |ZB=>exact .ZB
 |ptr id off b hb=>exact .ptr id off b (h.loc _ _ hb)
 |Zu esz rows i off b o vs hl hi hv ih=>exact .Zu esz rows i off b o vs hl (fun i j r av h1 h2=>h.ZO _ _ _ (hi i j r av h1 h2)) ih
 |Zo tag esz a ht=>exact .Zo tag esz a ⟨fun t e=>⟨h.lt (ht.1 t e).1,(ht.1 t e).2⟩,ht.2⟩
 |Zk tag esz a cap h=>exact .Zk tag esz a cap h
 |slice tag esz rows b o cap vs hl hi hv hc ht ih=>exact .slice tag esz rows b o cap vs hl (fun i j r av h1 h2=>h.ZO _ _ _ (hi i j r av h1 h2)) ih hc (ht.mono h)
 |Za id off len esz room b cap hb hc hs=>exact .Za id off len esz room b cap (h.loc _ _ hb) hc (fun hr=>let ⟨n,h1,h2⟩:=hs hr;⟨n,h.shape _ _ h1,h2⟩)
 |Z2 es b mes hb hl hk hv ih1 ih2=>exact .Z2 es b mes (h.shape _ _ hb) hl ih1 ih2
 |ZG=>exact .ZG
 |map id b hb=>exact .map id b (h.loc _ _ hb)
 |aba t p=>exact .aba t p
 |sdp t rows b cap vs htl ho hl hi hv hc ih=>exact .sdp t rows b cap vs (h.lt htl) (h.own _ _ ho) hl (fun i j r av h1 h2=>h.ZO _ _ _ (hi i j r av h1 h2)) ih hc
 |fn f first captured vs us h1 h2 hv hu ih1 ih2=>exact .fn f first captured vs us h1 h2 ih1 ih2
 |Zw=>exact .Zw
 |iface t v x hx ih=>exact .iface t v x ih
 |Zr=>exact .Zr
 |agg cs vs h1 hv ih=>exact .agg cs vs h1 ih
 |tuple cs vs h1 hv ih=>exact .tuple cs vs h1 ih
structure Vs (K:aC) (as:List AV) (vs:Array Value):Prop where
 size:as.length=vs.size
 at_:∀ i av,as[i]?=some av→V K av (vs.getD i undef)
theorem Vs.mono{K K':aC}(h:K.le K'){as:List AV}{vs:Array Value}(hv:Vs K as vs):Vs K' as vs:=⟨hv.size,fun i av hi=>(hv.at_ i av hi).mono h⟩
def Mf(K:aC)(w:World)(id:Nat):Y4→Prop
 |.dead | .tok _ _=>True
 |.cells cs T0 => ∃ b vs T,K.loc[id]?=some b∧K.base b∧w.heap[b]?=some (.cells vs T (0,0))∧cs.length≤vs.size ∧
   (∀ i av,cs[i]?=some av→V K av (vs.getD i undef))∧(∀ o,K.ZO b o=none)∧K.own b=none∧K.shape b=some (.rows vs.size)∧T=T0
 |.aaj s pos => ∃ b,K.loc[id]?=some b∧K.base b∧w.heap[b]?=some (.stringIter ⟨s.toArray⟩ pos)∧K.shape b=none
 |.map es => ∃ b mes clock,K.loc[id]?=some b∧K.base b∧w.heap[b]?=some (.map mes clock)∧es.length=mes.size ∧
   (∀ (i:Nat) (k v:AV),es[i]?=some (k,v)→∃ e:MapEntry,mes[i]?=some e∧V K k e.key∧V K v e.val)∧K.shape b=none
structure uu (M:Nat→Prop) (w w':World):Prop where
 os:w'.os=w.os
 tape:w'.tape=w.tape
 output:w'.output=w.output
 size:w.heap.size≤w'.heap.size
 block:∀ k,¬ M k→w'.heap[k]?=w.heap[k]?
theorem uu.refl(M:Nat→Prop)(w:World):uu M w w:=⟨rfl,rfl,rfl,amp _,fun _ _=>rfl⟩
theorem uu.trans{M:Nat→Prop}{a b c:World}(h:uu M a b)(k:uu M b c):uu M a c:=
 ⟨k.os.trans h.os,k.tape.trans h.tape,k.output.trans h.output,ams h.size k.size,fun i hi=>(k.block i hi).trans (h.block i hi)⟩
theorem uu.mono{M M':Nat→Prop}{w w':World}(h:uu M w w')(hm:∀ b,M b→M' b):uu M' w w':=⟨h.os,h.tape,h.output,h.size,fun k hk=>h.block k fun e=>hk (hm k e)⟩
theorem uu.drew{M:Nat→Prop}{a w:World}(h:uu M a w):uu M a w.drew:=⟨h.os,h.tape,h.output,h.size,h.block⟩
theorem uu.alloc{M:Nat→Prop}{a w:World}(h:uu M a w)(hM:∀ b,w.heap.size≤b→M b)(o:Obj):uu M a (w.alloc o):=
 h.trans ⟨rfl,rfl,rfl,by simp,fun k hk=>Below.heap_alloc _ _ _ (Nat.lt_of_not_le fun e=>hk (hM k e))⟩
theorem uu.setCell{M:Nat→Prop}{a w:World}(h:uu M a w){p:Addr}(hp:M p.block)(u:Value):uu M a (w.setCell p u):=
 h.trans ⟨rfl,rfl,rfl,by simp [World.setCell],fun k hk=>Below.heap_setCell _ _ _ _ (fun e=>hk (by rw [e];exact hp))⟩
theorem uu.below{M:Nat→Prop}{B:Nat}{w w':World}(h:uu M w w')(hB:∀ b,M b→B≤b):Below B w w':=
 ⟨h.os,h.tape,h.output,h.size,fun k hk=>h.block k fun e=>by have:=hB k e;omega⟩
structure Inv (K:aC) (H:List Y4) (w:World):Prop where
 below:uu K.base K.w0 w
 base:∀ b,w.heap.size≤b→K.base b
 ZO:∀ b o v,K.ZO b o=some v→w.cell? ⟨b,o,none⟩=some v
 len:K.loc.length=H.length
 obj:∀ (id:Nat) (x:Y4),H[id]?=some x→Mf K w id x
 inj:∀ (i j:Nat) (x y:Y4),H[i]?=some x→H[j]?=some y→x.live=true→y.live=true→i≠j→K.loc[i]?≠K.loc[j]?
 own : ∀ b t n,K.own b=some (t,n)→K.base b∧∃ fr vs T lo hi,H[t]?=some (.tok fr T)∧w.heap[b]?=some (.cells vs T (lo,hi))∧vs.size=n∧hi≤fr ∧
     ∀ o v,K.ZO b o=some v→o<fr
 ZC:∀ (g:Nat) (cs:List AV),K.ZC g=some cs→V K (.Zu cs.length [cs] 0 0) (.pointer (some ⟨g,0,none⟩))
 shape:∀ b s,K.shape b=some s→J0 w b s
inductive kA where
 |normal
 |exit (id:Nat)
 |goto (l:Nat)
 |ret
 |panic (v:AV)
 deriving Inhabited
inductive uY where
 |ret (v:AV)
 |panic (v:AV)
 deriving Inhabited
def zn(K:aC):kA→Exit→Prop
 |.normal,.normal=>True
 |.exit i,.exit j=>i=j
 |.goto i,.goto j=>i=j
 |.ret,.ret=>True
 |.panic v,.panic chain => ∃ x,chain=[{ v:=x,recovered:=false }]∧V K v x
 |_,_=>False
def Wv(K:aC):uY→Ending→Prop
 |.ret v,.returned x=>V K v x
 |.panic v,.panicked chain => ∃ x,chain=[{ v:=x,recovered:=false }]∧V K v x
 |_,_=>False
structure Fr where
 n:Nat
 ds:List Deferred:=[]
 rd:Option Nat:=none
 free:Nat→Prop:=fun _=>True
 mks:Bool:=true
def Fr.F(N:Fr):Fence := { Fence.wide with round:=N.rd }
theorem Fr.fn(N:Fr)(f:FuncId):N.F.fn f:=trivial
theorem Fr.dep(N:Fr):N.F.depth.isSome=true→1≤0:=fun h=>by cases h
def X6(D:Nat):Deferred := { target:=.collected D,args := #[] }
def zo(N:Fr)(K:aC)(l:List Deferred):Prop:=
 (∃ ms:List Nat,ms.Nodup∧(∀ D∈ms,K.shape D=some (.fix (.deferred (some [])))∧K.base D∧N.free D)∧(N.mks=false→ms=[])∧l=ms.map X6++N.ds)∧∀ b,K.shape b=none→N.free b
theorem zo.mono{N:Fr}{K K':aC}(h:K.le K'){l:List Deferred}:zo N K l→zo N K' l
 |⟨⟨ms,h1,h2,h3,h5⟩,h4⟩=>⟨⟨ms,h1,fun D hD=>⟨h.shape _ _ (h2 D hD).1,by rw [h.base];exact (h2 D hD).2.1,(h2 D hD).2.2⟩,h3,h5⟩,fun b hb=>h4 b (by
  cases e:K.shape b with
  |none=>rfl
  |some s=>rw [h.shape _ _ e] at hb;cases hb)⟩
theorem zo.none{N:Fr}{K:aC}(hf:∀ b,K.shape b=none→N.free b):zo N K N.ds:=⟨⟨[],.nil,by simp,fun _=>rfl,rfl⟩,hf⟩
theorem zo.bare{N:Fr}{K:aC}{l:List Deferred}(h:zo N K l)(hm:N.mks=false):l=N.ds:=by
 obtain ⟨⟨ms,_,_,h3,h4⟩,_⟩:=h;rw [h4,h3 hm];rfl
structure Rel (N:Fr) (K:aC) (a:Env) (H:List Y4) (act:Act) (w:World):Prop where
 inv:Inv K H w
 defers:zo N K act.defers
 size:act.tmps.size=N.n
 tmps:∀ t,V K (fh a t) (act.tmps.getD t undef)
def KV(N:Fr)(K0:aC)(Q:kA→Env→List Y4→Prop)(e:Exit)(act:Act)(w:World):Prop:=
 ∃ K x a H,K0.le K∧zn K x e∧Rel N K a H act w∧Q x a H
theorem KV.mono{N:Fr}{K0 K1:aC}{Q Q':kA→Env→List Y4→Prop}{e:Exit}{act:Act}{w:World}(hk:K0.le K1)
  (hq:∀ x a H,Q x a H→Q' x a H) (h:KV N K1 Q e act w):KV N K0 Q' e act w:=by
 obtain ⟨K,x,a,H,h1,h2,h3,h4⟩:=h;exact ⟨K,x,a,H,hk.trans h1,h2,h3,hq _ _ _ h4⟩
def AWP(P:Program)(G:Nat→Option (List AV))(N:Fr)(c:Code)(Q:kA→Env→List Y4→Prop)(a:Env)(H:List Y4):Prop:=
 ∀ K act w,K.ZC=G→Rel N K a H act w→c.wpIn N.F 0 P (KV N K Q) act w
def Cz(K0:aC)(R:uY→List Y4→Prop)(e:Ending)(w:World):Prop:=
 ∃ K r H,K0.le K∧Wv K r e∧Inv K H w∧R r H
def dL(P:Program)(G:Nat→Option (List AV))(f:FuncId)(args:List AV)(H:List Y4)(R:uY→List Y4→Prop):Prop:=
 ∀ K w cargs,K.ZC=G→Inv K H w→Vs K args cargs →
  ((callFunc f cargs).run P w = .ok (.enter f cargs) w∧Calls P f cargs w (Cz K R)) ∨
  ∃ cv w',(callFunc f cargs).run P w = .ok (.value cv) w'∧Cz K R (.returned cv) w'
section
variable{P:Program}{G:Nat→Option (List AV)}{N:Fr}{Q Q':kA→Env→List Y4→Prop}{a:Env}{H:List Y4}
theorem dL.mono{f:FuncId}{args:List AV}{R R':uY→List Y4→Prop}(h:dL P G f args H R)(hr:∀ r H',R r H'→R' r H'):dL P G f args H R':=
 fun K w cargs hg hi hv=>by
  rcases h K w cargs hg hi hv with ⟨h1,h2⟩ | ⟨cv,w',h1,K',r,H',h2,h3,h4,h5⟩
  ·exact .inl ⟨h1,h2.mono fun _ _ ⟨K',r,H',h1,h2,h3,h4⟩=>⟨K',r,H',h1,h2,h3,hr _ _ h4⟩⟩
  ·exact .inr ⟨cv,w',h1,K',r,H',h2,h3,h4,hr _ _ h5⟩
theorem AWP.mono{c:Code}(h:AWP P G N c Q a H)(hq:∀ x a H,Q x a H→Q' x a H):AWP P G N c Q' a H:=
 fun K act w hg hr=>wpIn_mono (h K act w hg hr) fun _ _ _ hl=>hl.mono (.refl K) hq
theorem RE(h:Q .normal a H):AWP P G N .skip Q a H:=fun K _ _ _ hr=>wpIn_skip ⟨K,.normal,a,H,.refl K,trivial,hr,h⟩
theorem Qk{l:Nat}(h:Q .normal a H):AWP P G N (.label l) Q a H:=fun K _ _ _ hr=>wpIn_label ⟨K,.normal,a,H,.refl K,trivial,hr,h⟩
theorem RF{id:Nat}(h:Q (.exit id) a H):AWP P G N (.exit id) Q a H:=fun K _ _ _ hr=>wpIn_exit ⟨K,.exit id,a,H,.refl K,rfl,hr,h⟩
theorem RG{l:Nat}(h:Q (.goto l) a H):AWP P G N (.goto l) Q a H:=fun K _ _ _ hr=>wpIn_goto ⟨K,.goto l,a,H,.refl K,rfl,hr,h⟩
theorem Uy(h:Q .ret a H):AWP P G N .ret Q a H:=fun K _ _ _ hr=>wpIn_ret ⟨K,.ret,a,H,.refl K,trivial,hr,h⟩
def kA.then(next:Env→List Y4→Prop)(Q:kA→Env→List Y4→Prop):kA→Env→List Y4→Prop
 |.normal,a,H=>next a H
 |e,a,H=>Q e a H
theorem Hq{K:aC}{x:kA}(h:zn K x .normal):x = .normal:=by cases x<;>simp [zn] at h ⊢
theorem J1{K:aC}{next:Env→List Y4→Prop}{nx:Act→World→Prop}{e:Exit}{act:Act}{w:World}(h:KV N K (kA.then next Q) e act w)
  (hn:∀ K' a' H',K.le K'→Rel N K' a' H' act w→next a' H'→nx act w):Exit.then nx (KV N K Q) e act w:=by
 obtain ⟨K',x,a',H',h1,h2,h3,h4⟩:=h;cases e with
 |normal=>obtain rfl:=Hq h2;exact hn K' a' H' h1 h3 h4
 |exit id=>cases x<;>first | exact (h2:False).elim | exact ⟨K',_,a',H',h1,h2,h3,h4⟩
 |goto id=>cases x<;>first | exact (h2:False).elim | exact ⟨K',_,a',H',h1,h2,h3,h4⟩
 |ret=>cases x<;>first | exact (h2:False).elim | exact ⟨K',_,a',H',h1,h2,h3,h4⟩
 |panic ch=>cases x<;>first | exact (h2:False).elim | exact ⟨K',_,a',H',h1,h2,h3,h4⟩
 |outgrown=>cases x<;>simp only [zn] at h2
theorem Uz{x y:Code}(h:AWP P G N x (kA.then (AWP P G N y Q) Q) a H):AWP P G N (.seq x y) Q a H:=fun K act w hg hr=>
 wpIn_seq (wpIn_mono (h K act w hg hr) fun _ act' w' hl=>J1 hl fun K' _ _ hk hr' hn=>wpIn_mono (hn K' act' w' (hk.ZC.trans hg) hr') fun _ _ _ hl'=>hl'.mono hk fun _ _ _ q=>q)
def zp:Value→AV
 |.bool b=>.bool b
 |.int k n=>.int k n
 |.string s=>.str s.data.toList
 |.pointer none=>.ZB
 |.slice none 0 0=>.slice .nil 0 []
 |.map none=>.ZG
 |.nilFunc=>.Zw
 |.nilIface=>.Zr
 |_=>.ZW
def lH:Value→AV
 |.agg cs=>.agg (cs.toList.map zp)
 |.tuple cs=>.tuple (cs.toList.map zp)
 |.func f a b=>if a.size=0∧b.size=0 then .fn f [] [] else .ZW
 |.iface t x=>.iface t (zp x)
 |v=>zp v
theorem EH(K:aC)(v:Value):V K (zp v) v:=by
 unfold zp;split
 ·exact .bool _
 ·exact .int _ _
 ·rename_i s;have:=V.str (K:=K) s.data.toList;simpa using this
 ·exact .ZB
 ·exact .Zo _ _ _ ⟨fun _ e=>(by cases e),fun _=>rfl,fun e=>(by cases e)⟩
 ·exact .ZG
 ·exact .Zw
 ·exact .Zr
 ·exact .ZW _
theorem Hr(K:aC)(cs:Array Value)(i:Nat)(av:AV)(h:(cs.toList.map zp)[i]?=some av):V K av (cs.getD i undef):=by
 simp only [amK,amn] at h;obtain ⟨x,hx,rfl⟩:=h
 have:cs[i]?=some x:=by simpa using hx
 have h2:cs.getD i undef=x:=by simp [amd,this]
 rw [h2];exact EH K x
theorem ri(K:aC)(v:Value):V K (lH v) v:=by
 unfold lH;split
 ·exact .agg _ _ (by simp) (Hr K _)
 ·exact .tuple _ _ (by simp) (Hr K _)
 ·rename_i f x y
  split
  ·rename_i h;exact .fn f [] [] x y (by simp [h.1]) (by simp [h.2]) (by simp) (by simp)
  ·exact .ZW _
 ·exact .iface _ _ _ (EH K _)
 ·exact EH K _
def eg(G:Nat→Option (List AV))(a:Env):Operand→AV
 |.tmp t=>fh a t
 |.const v=>lH v
 |.global g=>match G g with
  |some cs=>.Zu cs.length [cs] 0 0
  |none=>.ZW
 |.func f=>.fn (.func f) [] []
theorem Rel.eval{K:aC}{act:Act}{w:World}(hg:K.ZC=G)(hr:Rel N K a H act w)(x:Operand):V K (eg G a x) (act.eval x):=by
 cases x with
 |tmp t=>exact hr.tmps t
 |const v=>exact ri K v
 |global g=>
  show V K (match G g with | some cs=>.Zu cs.length [cs] 0 0 | none=>.ZW) (.pointer (some ⟨g,0,none⟩));split
  ·rename_i cs h;exact hr.inv.ZC g cs (by rw [hg];exact h)
  ·exact .ZW _
 |func f=>exact .fn _ [] [] #[] #[] rfl rfl (by simp) (by simp)
theorem V.ac8{K:aC}{b:Bool}{v:Value}(h:V K (.bool b) v):v = .bool b:=by cases h;rfl
theorem RH{c:Operand}{x y:Code}{t:Bool}(hc:eg G a c = .bool t)(h:AWP P G N (if t then x else y) Q a H):AWP P G N (.cond c x y) Q a H:=fun K act w hg hr=>by
 have hv:=hr.eval hg c;rw [hc] at hv;exact wpIn_cond hv.ac8 (by cases t<;>exact h K act w hg hr)
def kA.inBlock(id:Nat)(Q:kA→Env→List Y4→Prop):kA→Env→List Y4→Prop
 |.exit id',a,H=>if id'=id then Q .normal a H else Q (.exit id') a H
 |e,a,H=>Q e a H
theorem Ql{id:Nat}{c:Code}(h:AWP P G N c (kA.inBlock id Q) a H):AWP P G N (.block id c) Q a H:=fun K act w hg hr=>by
 refine wpIn_block (wpIn_mono (h K act w hg hr) fun e act' w' hl => ?_);obtain ⟨K',x,a',H',h1,h2,h3,h4⟩:=hl;cases x<;>cases e<;>simp only [zn] at h2<;>try exact ⟨K',_,a',H',h1,by first | exact h2 | trivial,h3,h4⟩
 subst h2;simp only [kA.inBlock,Exit.inBlock] at h4 ⊢;split
 ·rename_i hid;simp only [hid,if_true] at h4;exact ⟨K',.normal,a',H',h1,trivial,h3,h4⟩
 ·rename_i hid;simp only [hid,if_false] at h4;exact ⟨K',.exit _,a',H',h1,rfl,h3,h4⟩
theorem EI{F:Fence}{n:Nat}{P:Program}{c:Code}{Q:Exit→Act→World→Prop}{act:Act}{w:World}(I:Nat→Nat→Act→World→Prop)(n₀:Nat)
  (first:c.wpIn F n P (fun e a' w'=>match e with | .goto l => ∃ m,m≤n₀∧I m l a' w' | e=>Q e a' w') act w)
  (pass:∀ m l a w,I m l a w→∃ rest,findLabel c l=some rest∧rest.wpIn F n P (fun e a' w'=>match e with | .goto l' => ∃ m',m'<m∧I m' l' a' w' | e=>Q e a' w') a w):(Code.scope c).wpIn F n P Q act w:=by
 intro b k cs hro hb hr;have stS:∀ (a:Act) (w:World),StepsIn (Machine.fenced P F) P (lone (b.atR a (.code (.scope c)::k)) cs w) (lone (b.atR a (.code c :: .inScope c::k)) cs w):=fun a w=>.one (fenced_calm hb hr rfl) (step_lone_go (by simp [stepG,stepG.exec,Frame.atR]))
 have stI:∀ (a:Act) (w:World),StepsIn (Machine.fenced P F) P (lone (b.atR a (.inScope c::k)) cs w) (lone (b.atR a k) cs w):=fun a w=>.one (fenced_calm hb hr rfl) (step_lone_go (by simp [stepG,stepG.exec,Frame.atR]))
 have hx:∀ id,exitTo id (.inScope c::k)=exitTo id k:=fun id=>by simp [exitTo]
 have hg:∀ l rest,findLabel c l=some rest→gotoIn l (.inScope c::k)=some (.code rest :: .inScope c::k):=fun l rest h=>by simp [gotoIn,h]
 have key:∀ m l a w,I m l a w→∃ rest,findLabel c l=some rest∧∃ e a' w',Q e a' w'∧ArrivesIn (Machine.fenced P F) P (lone (b.atR a (.code rest :: .inScope c::k)) cs w) b k cs e a' w':=by
  intro m;induction m using Nat.strongRecOn with
  |_ m ih=>
   intro l a w hI;obtain ⟨rest,hf,hw⟩:=pass m l a w hI;refine ⟨rest,hf, ?_⟩;obtain ⟨e,a₁,w₁,hq,harr⟩:=hw b (.inScope c::k) cs hro hb hr;cases e with
   |normal=>exact ⟨.normal,a₁,w₁,hq,StepsIn.trans harr (stI _ _)⟩
   |exit id=>exact ⟨.exit id,a₁,w₁,hq,fun k' hk=>harr.1 k' (by rw [hx];exact hk),fun hr' hk=>harr.2 hr' (by rw [hx];exact hk)⟩
   |goto l'=>
    obtain ⟨m',hlt,hI'⟩:=hq;obtain ⟨rest',hf',e₂,a₂,w₂,hq₂,harr₂⟩:=ih m' hlt l' a₁ w₁ hI';exact ⟨e₂,a₂,w₂,hq₂,.of_steps (harr.1 _ (hg _ _ hf')) harr₂⟩
   |ret=>exact ⟨_,a₁,w₁,hq,harr⟩
   |panic ch=>exact ⟨_,a₁,w₁,hq,harr⟩
   |outgrown=>exact ⟨_,a₁,w₁,hq,harr⟩
 obtain ⟨e,a₁,w₁,hq,harr⟩:=first b (.inScope c::k) cs hro hb hr
 cases e with
 |normal=>exact ⟨.normal,a₁,w₁,hq,(stS _ _).trans (StepsIn.trans harr (stI _ _))⟩
 |exit id=>exact ⟨.exit id,a₁,w₁,hq,.of_steps (stS _ _) ⟨fun k' hk=>harr.1 k' (by rw [hx];exact hk),fun hr' hk=>harr.2 hr' (by rw [hx];exact hk)⟩⟩
 |goto l'=>
  obtain ⟨m',_,hI'⟩:=hq;obtain ⟨rest',hf',e₂,a₂,w₂,hq₂,harr₂⟩:=key m' l' a₁ w₁ hI';exact ⟨e₂,a₂,w₂,hq₂,.of_steps ((stS _ _).trans (harr.1 _ (hg _ _ hf'))) harr₂⟩
 |ret=>exact ⟨_,a₁,w₁,hq,.of_steps (stS _ _) harr⟩
 |panic ch=>exact ⟨_,a₁,w₁,hq,.of_steps (stS _ _) harr⟩
 |outgrown=>exact ⟨_,a₁,w₁,hq,.of_steps (stS _ _) harr⟩
theorem Qm{c:Code}(I:Nat→Nat→Env→List Y4→Prop)(n₀:Nat)
  (first:AWP P G N c (fun x a' H'=>match x with | .goto l => ∃ m,m≤n₀∧I m l a' H' | x=>Q x a' H') a H)
  (pass:∀ m l a H,I m l a H→∃ rest,findLabel c l=some rest∧AWP P G N rest (fun x a' H'=>match x with | .goto l' => ∃ m',m'<m∧I m' l' a' H' | x=>Q x a' H') a H):AWP P G N (.scope c) Q a H:=fun K act w hg hr=>by
 refine EI (fun m l act w => ∃ K' a' H',K.le K'∧Rel N K' a' H' act w∧I m l a' H') n₀ (wpIn_mono (first K act w hg hr) fun e act' w' hl => ?_) ?_
 ·obtain ⟨K',x,a',H',h1,h2,h3,h4⟩:=hl
  cases x<;>cases e<;>simp only [zn] at h2
  case goto.goto l l'=>
   subst h2;obtain ⟨m,hm,hI⟩:=h4;exact ⟨m,hm,K',a',H',h1,h3,hI⟩
  all_goals exact ⟨K',_,a',H',h1,by first | exact h2 | trivial,h3,h4⟩
 ·rintro m l act w ⟨K',a',H',hk,hr',hI⟩
  obtain ⟨rest,hf,hw⟩:=pass m l a' H' hI;refine ⟨rest,hf,wpIn_mono (hw K' act w (hk.ZC.trans hg) hr') fun e act' w' hl => ?_⟩;obtain ⟨K2,x,a2,H2,h1,h2,h3,h4⟩:=hl;cases x<;>cases e<;>simp only [zn] at h2
  case goto.goto l l'=>
   subst h2;obtain ⟨m',hm,hI'⟩:=h4;exact ⟨m',hm,K2,a2,H2,hk.trans h1,h3,hI'⟩
  all_goals exact ⟨K2,_,a2,H2,hk.trans h1,by first | exact h2 | trivial,h3,h4⟩
end
theorem heap_alloc(w:World)(o:Obj)(b:Nat):(w.alloc o).heap[b]?=if b=w.heap.size then some o else w.heap[b]? := by
 show (w.heap.push o)[b]?=_;rw [ao6]
theorem UA{w:World}{b o:Nat}{v:Value}(h:w.cell? ⟨b,o,none⟩=some v):b<w.heap.size:=World.block_lt_of_cell? w ⟨b,o,none⟩ h
theorem de{w:World}{b o:Nat}{vs:Array Value}{T:TypeId}{f:Nat×Nat}(h:w.heap[b]?=some (.cells vs T f)):w.cell? ⟨b,o,none⟩=vs[o]? := by
 simp [World.cell?,h]
theorem zq{w:World}{b o:Nat}{v:Value}(h:w.cell? ⟨b,o,none⟩=some v):∃ vs T f,w.heap[b]?=some (.cells vs T f)∧vs[o]?=some v:=by
 unfold World.cell? at h;split at h
 ·rename_i c T f hc;exact ⟨c,T,f,hc,by simpa using h⟩
 ·cases h
theorem mh{w w':World}{b o:Nat}(h:w'.heap[b]?=w.heap[b]?):w'.cell? ⟨b,o,none⟩=w.cell? ⟨b,o,none⟩:=by
 simp [World.cell?,h]
theorem ka{α:Type}{l:List α}{t i:Nat}{x y:α}(h:(l.set t x)[i]?=some y):(i=t∧y=x)∨(i≠t∧l[i]?=some y):=by
 by_cases e:i=t
 ·subst e
  have hlt:i<l.length:=by have:=(al3.1 h).1;simpa using this
  simp [hlt] at h;exact .inl ⟨rfl,h.symm⟩
 ·rw [ami (fun h=>e h.symm)] at h;exact .inr ⟨e,h⟩
section
variable{K:aC}{H:List Y4}{w:World}
theorem Inv.acz(hi:Inv K H w){b o:Nat}{v:Value}(h:K.ZO b o=some v):b<w.heap.size:=UA (hi.ZO _ _ _ h)
theorem Inv.adK(hi:Inv K H w){b:Nat}{x:Nat×Nat}(h:K.own b=some x):b<w.heap.size:=by
 obtain ⟨_,fr,vs,T,lo,hi',_,h2,_⟩:=hi.own b x.1 x.2 h;exact (amh.1 h2).1
theorem Inv.aa3(hi:Inv K H w)(o:Nat):K.ZO w.heap.size o=none:=by
 cases h:K.ZO w.heap.size o with
 |none=>rfl
 |some v=>exact absurd (hi.acz h) (ame _)
theorem Inv.ahv(hi:Inv K H w):K.own w.heap.size=none:=by
 cases h:K.own w.heap.size with
 |none=>rfl
 |some v=>exact absurd (hi.adK h) (ame _)
theorem Inv.ZF(hi:Inv K H w){id:Nat}{x:Y4}(hx:H[id]?=some x)(hl:x.live=true):∃ b,K.loc[id]?=some b∧K.base b∧b<w.heap.size:=by
 have:=hi.obj id x hx;cases x with
 |dead=>cases hl
 |tok=>cases hl
 |cells cs T0=>obtain ⟨b,vs,T,h1,h2,h3,_⟩:=this;exact ⟨b,h1,h2,(amh.1 h3).1⟩
 |aaj s p=>obtain ⟨b,h1,h2,h3,_⟩:=this;exact ⟨b,h1,h2,(amh.1 h3).1⟩
 |map es=>obtain ⟨b,me,cl,h1,h2,h3,_⟩:=this;exact ⟨b,h1,h2,(amh.1 h3).1⟩
theorem Mf.mono{K':aC}{w':World}{id:Nat}{x:Y4}(h:Mf K w id x)(hk:K.le K')(hw:∀ b,K.loc[id]?=some b→K.base b→b<w.heap.size→w'.heap[b]?=w.heap[b]?)
  (hm:∀ b,K.loc[id]?=some b→x.live=true→(∀ o,K.ZO b o=none→K'.ZO b o=none)∧(K.own b=none→K'.own b=none)∧(K.shape b=none→K'.shape b=none)):Mf K' w' id x:=by
 cases x with
 |dead=>trivial
 |tok=>trivial
 |cells cs T0=>
  obtain ⟨b,vs,T,h1,h2,h3,h4,h5,h6,h7,h8,h9⟩:=h;have hb:=(amh.1 h3).1;refine ⟨b,vs,T,hk.loc _ _ h1,by rw [hk.base];exact h2,by rw [hw b h1 h2 hb];exact h3,h4,fun i av hi=>(h5 i av hi).mono hk,fun o=>(hm b h1 rfl).1 o (h6 o),(hm b h1 rfl).2.1 h7,hk.shape _ _ h8,h9⟩
 |aaj s p=>
  obtain ⟨b,h1,h2,h3,h4⟩:=h;have hb:=(amh.1 h3).1;exact ⟨b,hk.loc _ _ h1,by rw [hk.base];exact h2,by rw [hw b h1 h2 hb];exact h3,(hm b h1 rfl).2.2 h4⟩
 |map es=>
  obtain ⟨b,me,cl,h1,h2,h3,h4,h5,h9⟩:=h;have hb:=(amh.1 h3).1;refine ⟨b,me,cl,hk.loc _ _ h1,by rw [hk.base];exact h2,by rw [hw b h1 h2 hb];exact h3,h4,fun i k v hi => ?_,(hm b h1 rfl).2.2 h9⟩;obtain ⟨e,he,h6,h7⟩:=h5 i k v hi;exact ⟨e,he,h6.mono hk,h7.mono hk⟩
structure uv (w w':World):Prop where
 cells:∀ (b:Nat) (vs:Array Value) (T:TypeId) (f:Nat×Nat),w.heap[b]?=some (.cells vs T f)→∃ (vs':Array Value) (f':Nat×Nat),w'.heap[b]?=some (.cells vs' T f')∧vs'.size=vs.size
 map:∀ (b:Nat) (es:Array MapEntry) (c:Nat),w.heap[b]?=some (.map es c)→w'.heap[b]?=some (.map es c)
 fix:∀ (b:Nat) (o:Obj),w.heap[b]?=some o→Wb o=true→w'.heap[b]?=some o
theorem uv.shp{w':World}(h:uv w w'){b:Nat}{s:Shp}(hs:J0 w b s):J0 w' b s:=by
 cases s with
 |rows n=>obtain ⟨vs,T,f,h1,h2⟩:=hs;obtain ⟨vs',f',h3,h4⟩:=h.cells b vs T f h1;exact ⟨vs',T,f',h3,h4.trans h2⟩
 |ac0 es=>obtain ⟨c,h1⟩:=hs;exact ⟨c,h.map b es c h1⟩
 |fix o=>exact ⟨h.fix b o hs.1 hs.2,hs.2⟩
theorem uv.of_lt{w':World}(h:∀ b,b<w.heap.size→w'.heap[b]?=w.heap[b]?):uv w w':=
 ⟨fun b vs T f hb=>⟨vs,f,by rw [h b (amh.1 hb).1];exact hb,rfl⟩,fun b es c hb=>by rw [h b (amh.1 hb).1];exact hb,fun b o hb _=>by rw [h b (amh.1 hb).1];exact hb⟩
theorem uv.alloc(w:World)(o:Obj):uv w (w.alloc o):=.of_lt fun b hb=>by rw [heap_alloc,if_neg (by omega)]
theorem Inv.afT(hi:Inv K H w){b:Nat}{s:Shp}(h:K.shape b=some s):b<w.heap.size:=by
 have:=hi.shape b s h;cases s with
 |rows n=>obtain ⟨vs,T,f,h1,_⟩:=this;exact (amh.1 h1).1
 |ac0 es=>obtain ⟨c,h1⟩:=this;exact (amh.1 h1).1
 |fix o=>exact (amh.1 this.1).1
theorem Inv.acD(hi:Inv K H w):K.shape w.heap.size=none:=by
 cases h:K.shape w.heap.size with
 |none=>rfl
 |some v=>exact absurd (hi.afT h) (ame _)
theorem Inv.new(hi:Inv K H w):K.base w.heap.size:=hi.base _ (amp _)
theorem Inv.ZZ(hi:Inv K H w):K.shape w.heap.size=none∧K.base w.heap.size:=⟨hi.acD,hi.new⟩
theorem Inv.drew(hi:Inv K H w):Inv K H w.drew:=
 ⟨hi.below.drew,hi.base,fun b o v h=>by have:=hi.ZO b o v h;simpa using this,hi.len,fun id x hx=>(hi.obj id x hx).mono (.refl K) (fun _ _ _ _=>rfl) (fun _ _ _=>⟨fun _ h=>h,fun h=>h,fun h=>h⟩),hi.inj,hi.own,hi.ZC,fun b s h=>(uv.of_lt fun _ _=>rfl:uv w w.drew).shp (hi.shape b s h)⟩
def aC.ZJ(K:aC)(b:Nat)(s:Option Shp):aC := { K with loc:=K.loc++[b],shape:=fun b'=>match s with | some s=>if b'=b then some s else K.shape b' | none=>K.shape b' }
abbrev aC.push(K:aC)(b:Nat):aC:=K.ZJ b none
theorem aC.aal(K:aC)(b:Nat)(s:Option Shp)(h:K.shape b=none∧K.base b):K.le (K.ZJ b s):=
 ⟨fun _ _ _ h=>h,fun _ _ h=>h,fun i b' h=>by
  have hlt:=(al3.1 h).1;show (K.loc++[b])[i]?=some b';rw [al7 hlt];exact h,rfl,rfl,rfl,fun b' s' hs=>by
  cases s with
  |none=>exact hs
  |some s=>
   show (if b'=b then _ else _)=_;rw [if_neg (fun e=>by subst e;rw [h.1] at hs;cases hs)];exact hs,fun b' hb'=>⟨fun _=>rfl,by
  cases s with
  |none=>rfl
  |some s=>
   show (if b'=b then _ else _)=_;rw [if_neg (fun e=>by subst e;exact hb' h.2)]⟩⟩
theorem aC.aaI(K:aC)(b:Nat):K.le (K.push b):=
 ⟨fun _ _ _ h=>h,fun _ _ h=>h,fun i b' h=>by
  have hlt:=(al3.1 h).1;show (K.loc++[b])[i]?=some b';rw [al7 hlt];exact h,rfl,rfl,rfl,fun _ _ h=>h,fun _ _=>⟨fun _=>rfl,rfl⟩⟩
theorem rj{α:Type}{l:List α}{x:α}{i:Nat}{y:α}(h:(l++[x])[i]?=some y):l[i]?=some y∨(i=l.length∧y=x):=by
 rcases aoN i l.length with hlt | heq | hgt
 ·rw [al7 hlt] at h;exact .inl h
 ·subst heq;simp at h;exact .inr ⟨rfl,h.symm⟩
 ·rw [amm (by omega)] at h
  have:i-l.length≠0:=by omega
  simp [this] at h
theorem Inv.aaU(hi:Inv K H w)(x:Y4)(o:Obj)(hx:x.live=true)(sh:Option Shp)(hsh:∀ s,sh=some s→J0 (w.alloc o) w.heap.size s)
  (hok:∀ w',w'.heap[w.heap.size]?=some o→(∀ off,K.ZO w.heap.size off=none)→K.own w.heap.size=none→Mf (K.ZJ w.heap.size sh) w' K.loc.length x) :
  Inv (K.ZJ w.heap.size sh) (H++[x]) (w.alloc o):=by
 have hle:=K.aal w.heap.size sh hi.ZZ;have hheap:∀ b,b<w.heap.size→(w.alloc o).heap[b]?=w.heap[b]? := fun b hb=>by rw [heap_alloc,if_neg (by omega)]
 refine ⟨hi.below.alloc hi.base o,fun b h=>hi.base b (by simp at h;omega),fun b off v h => ?_,by simp [aC.ZJ,hi.len],fun id y hy => ?_,fun i j y z hy hz ly lz hij => ?_,fun b t n h => ?_,fun g cs hg=>(hi.ZC g cs hg).mono hle,fun b s h => ?_⟩
 ·have h':K.ZO b off=some v:=h
  rw [mh (hheap b (hi.acz h'))];exact hi.ZO _ _ _ h'
 ·rcases rj hy with hy | ⟨rfl,rfl⟩
  ·refine (hi.obj id y hy).mono hle (fun b _ _ hb=>hheap b hb) (fun b hb hl=>⟨fun _ h=>h,fun h=>h,fun h => ?_⟩)
   cases sh with
   |none=>exact h
   |some s=>
    obtain ⟨b',h1,_,h2⟩:=hi.ZF hy hl;rw [hb] at h1;cases h1;show (if b=w.heap.size then _ else _)=_;rw [if_neg (by omega)];exact h
  ·rw [← hi.len];exact hok _ (by rw [heap_alloc,if_pos rfl]) hi.aa3 hi.ahv
 ·show (K.loc++[w.heap.size])[i]?≠(K.loc++[w.heap.size])[j]?
  rcases rj hy with hy | ⟨rfl,hyx⟩<;>rcases rj hz with hz | ⟨rfl,hzx⟩
  ·have h1:=(al3.1 hy).1
   have h2:=(al3.1 hz).1;rw [← hi.len] at h1 h2;rw [al7 h1,al7 h2];exact hi.inj i j y z hy hz ly lz hij
  ·obtain ⟨b,hb,_,hlt⟩:=hi.ZF hy ly
   have h1:=(al3.1 hb).1;rw [al7 h1,hb,← hi.len];simp;omega
  ·obtain ⟨b,hb,_,hlt⟩:=hi.ZF hz lz
   have h1:=(al3.1 hb).1;rw [al7 h1,hb,← hi.len];simp;omega
  ·exact absurd rfl hij
 ·have h':K.own b=some (t,n):=h
  obtain ⟨hb,fr,vs,T,lo,hh,h1,h2,h3⟩:=hi.own b t n h';have hlt:=(amh.1 h2).1;refine ⟨hb,fr,vs,T,lo,hh, ?_,by rw [hheap b hlt];exact h2,h3⟩;rw [al7 (al3.1 h1).1];exact h1
 ·cases sh with
  |none=>exact (uv.alloc w o).shp (hi.shape b s h)
  |some s0=>
   have h':(if b=w.heap.size then some s0 else K.shape b)=some s:=h;split at h'
   ·rename_i e;subst e;cases h';exact hsh s rfl
   ·exact (uv.alloc w o).shp (hi.shape b s h')
theorem Inv.ac1(hi:Inv K H w)(cs:List AV)(vs:Array Value)(T:TypeId)(hv:Vs K cs vs) :
  Inv (K.ZJ w.heap.size (some (.rows vs.size))) (H++[.cells cs T]) (w.alloc (.cells vs T)):=by
 refine hi.aaU (.cells cs T) _ rfl _ (fun s h=>by cases h;exact ⟨vs,T,(0,0),by rw [heap_alloc,if_pos rfl],rfl⟩) fun w' hw' h1 h2=>⟨w.heap.size,vs,T,by simp [aC.ZJ],hi.new,hw',by rw [hv.size];exact amp _,fun i av hiv=>(hv.at_ i av hiv).mono (K.aal _ _ hi.ZZ),h1,h2,by simp [aC.ZJ],rfl⟩
def aC.ext(K:aC)(b:Nat)(f:Nat→Option Value):aC := { K with ZO:=fun b' o=>if b'=b then (match f o with | some v=>some v | none=>K.ZO b' o) else K.ZO b' o }
theorem aC.abL(K:aC)(b:Nat)(f:Nat→Option Value)(hb:K.base b)(h:∀ o v,K.ZO b o=some v→f o=none):K.le (K.ext b f):=
 ⟨fun b' o v hv=>by
  show (if b'=b then _ else _)=_;split
  ·rename_i hb;subst hb;rw [h o v hv];exact hv
  ·exact hv,fun _ _ h=>h,fun _ _ h=>h,rfl,rfl,rfl,fun _ _ h=>h,fun b' hb'=>⟨fun o=>if_neg (fun e=>hb' (by rw [e];exact hb)),rfl⟩⟩
theorem aC.abO{K:aC}{b:Nat}{f:Nat→Option Value}{b' o:Nat}{v:Value}(h:(K.ext b f).ZO b' o=some v):(b'=b∧f o=some v)∨K.ZO b' o=some v:=by
 have h':(if b'=b then (match f o with | some v=>some v | none=>K.ZO b' o) else K.ZO b' o)=some v:=h;split at h'
 ·rename_i hb
  split at h'
  ·rename_i x hx;exact .inl ⟨hb,hx.trans h'⟩
  ·exact .inr h'
 ·exact .inr h'
theorem aC.abN{K:aC}{b:Nat}{f:Nat→Option Value}{o:Nat}{v:Value}(h:f o=some v):(K.ext b f).ZO b o=some v:=by
 simp [aC.ext,h]
theorem Inv.ada(hi:Inv K H w)(vs:Array Value)(T:TypeId)(f:Nat×Nat:=(0,0)):Inv (K.ext w.heap.size (vs[·]?)) H (w.alloc (.cells vs T f)):=by
 have hle:=K.abL w.heap.size (vs[·]?) hi.new fun o v h=>by rw [hi.aa3 o] at h;cases h
 have hheap:∀ b,b<w.heap.size→(w.alloc (.cells vs T f)).heap[b]?=w.heap[b]? := fun b hb=>by rw [heap_alloc,if_neg (by omega)]
 refine ⟨hi.below.alloc hi.base _,fun b h=>hi.base b (by simp at h;omega),fun b off v h => ?_,hi.len,fun id y hy => ?_,hi.inj,fun b t n h => ?_,fun g cs hg=>(hi.ZC g cs hg).mono hle,fun b s h=>(uv.alloc w _).shp (hi.shape b s h)⟩
 ·rcases aC.abO h with ⟨rfl,h1⟩ | h
  ·rw [de (vs:=vs) (T:=T) (f:=f) (by rw [heap_alloc,if_pos rfl])];assumption
  ·rw [mh (hheap b (hi.acz h))];exact hi.ZO _ _ _ h
 ·refine (hi.obj id y hy).mono hle (fun b _ _ hb=>hheap b hb) (fun b hb hl=>⟨fun o h => ?_,fun h=>h,fun h=>h⟩)
  have hne:b≠w.heap.size:=by obtain ⟨b',h1,_,h2⟩:=hi.ZF hy hl;rw [hb] at h1;cases h1;omega
  show (if b=w.heap.size then _ else _)=_;rw [if_neg hne];exact h
 ·have h':K.own b=some (t,n):=h
  obtain ⟨hb,fr,us,T',lo,hh,h1,h2,h3,h4,h5⟩:=hi.own b t n h';have hlt:=(amh.1 h2).1;refine ⟨hb,fr,us,T',lo,hh,h1,by rw [hheap b hlt];exact h2,h3,h4,fun o v hv => ?_⟩;rcases aC.abO hv with ⟨rfl,_⟩ | hv
  ·exact absurd hlt (ame _)
  ·exact h5 o v hv
def aC.aeD(K:aC)(b:Nat)(x:Nat×Nat):aC := { K with own:=fun b'=>if b'=b then some x else K.own b' }
theorem aC.ac2{K:aC}{b:Nat}{f:Nat→Option Value}{x:Nat×Nat}{b0 b' o:Nat}{v:Value}(h:((K.ext b f).aeD b0 x).ZO b' o=some v):(b'=b∧f o=some v)∨K.ZO b' o=some v:=aC.abO h
theorem Inv.agR(hi:Inv K H w)(vs:Array Value)(T:TypeId)(m t fr:Nat)(ht:H[t]?=some (.tok fr T))(hm:m≤fr) :
  Inv ((K.ext w.heap.size (fun o=>if o<m then vs[o]? else none)).aeD w.heap.size (t,vs.size)) H (w.alloc (.cells vs T)):=by
 have hle1:=K.abL w.heap.size (fun o=>if o<m then vs[o]? else none) hi.new fun o v h=>by rw [hi.aa3 o] at h;cases h
 have hle:K.le ((K.ext w.heap.size (fun o=>if o<m then vs[o]? else none)).aeD w.heap.size (t,vs.size)):=
  ⟨hle1.ZO,fun b x hx=>by
   show (if b=w.heap.size then _ else _)=_;rw [if_neg (by have:=hi.adK hx;omega)];exact hx,fun _ _ h=>h,rfl,rfl,rfl,fun _ _ h=>h,hle1.low⟩
 have hheap:∀ b,b<w.heap.size→(w.alloc (.cells vs T)).heap[b]?=w.heap[b]? := fun b hb=>by rw [heap_alloc,if_neg (by omega)]
 refine ⟨hi.below.alloc hi.base _,fun b h=>hi.base b (by simp at h;omega),fun b off v h => ?_,hi.len,fun id y hy => ?_,hi.inj,fun b t' n h => ?_,fun g cs hg=>(hi.ZC g cs hg).mono hle,fun b s h=>(uv.alloc w _).shp (hi.shape b s h)⟩
 ·rcases aC.ac2 h with ⟨rfl,h9⟩ | h
  ·rw [de (vs:=vs) (T:=T) (f:=(0,0)) (by rw [heap_alloc,if_pos rfl])]
   split at h9
   ·exact h9
   ·cases h9
  ·rw [mh (hheap b (hi.acz h))];exact hi.ZO _ _ _ h
 ·have hne:∀ b,K.loc[id]?=some b→y.live=true→b≠w.heap.size:=fun b hb hl=>by obtain ⟨b',h1,_,h2⟩:=hi.ZF hy hl;rw [hb] at h1;cases h1;omega
  refine (hi.obj id y hy).mono hle (fun b _ _ hb=>hheap b hb) (fun b hb hl=>⟨fun o h => ?_,fun h => ?_,fun h=>h⟩)
  ·show (if b=w.heap.size then _ else _)=_
   rw [if_neg (hne b hb hl)];exact h
  ·show (if b=w.heap.size then _ else _)=_
   rw [if_neg (hne b hb hl)];exact h
 ·have h':(if b=w.heap.size then some (t,vs.size) else K.own b)=some (t',n):=h
  split at h'
  ·rename_i hb
   simp only [amo,anM] at h';obtain ⟨rfl,rfl⟩:=h';subst hb;refine ⟨hi.new,fr,vs,T,0,0,ht,by rw [heap_alloc,if_pos rfl],rfl,anC _,fun o v hv => ?_⟩;rcases aC.ac2 hv with ⟨_,hv⟩ | hv
   ·split at hv
    ·omega
    ·cases hv
   ·rw [hi.aa3 o] at hv;cases hv
  ·obtain ⟨hb,fr',us,T',lo,hh,h1,h2,h3,h4,h5⟩:=hi.own b t' n h'
   have hlt:=(amh.1 h2).1;refine ⟨hb,fr',us,T',lo,hh,h1,by rw [hheap b hlt];exact h2,h3,h4,fun o v hv => ?_⟩;rcases aC.ac2 hv with ⟨rfl,_⟩ | hv
   ·exact absurd hlt (ame _)
   ·exact h5 o v hv
theorem Inv.aeS(hi:Inv K H w){t fr fr':Nat}{T:TypeId}(ht:H[t]?=some (.tok fr T))(hf:fr≤fr'):Inv K (H.set t (.tok fr' T)) w:=by
 have hlt:=(al3.1 ht).1;have hget:∀ (i:Nat) (x:Y4),(H.set t (.tok fr' T))[i]?=some x→(i=t∧x = .tok fr' T)∨(i≠t∧H[i]?=some x):=fun i x hx=>ka hx
 refine ⟨hi.below,hi.base,hi.ZO,by simp [hi.len],fun id x hx => ?_,fun i j x y hx hy lx ly hij => ?_,fun b t' n h => ?_,hi.ZC,hi.shape⟩
 ·rcases hget id x hx with ⟨_,rfl⟩ | ⟨_,h⟩
  ·trivial
  ·exact hi.obj id x h
 ·rcases hget i x hx with ⟨_,rfl⟩ | ⟨_,h1⟩
  ·cases lx
  ·rcases hget j y hy with ⟨_,rfl⟩ | ⟨_,h2⟩
   ·cases ly
   ·exact hi.inj i j x y h1 h2 lx ly hij
 ·obtain ⟨hb,f0,us,T',lo,hh,h1,h2,h3,h4,h5⟩:=hi.own b t' n h
  by_cases e:t'=t
  ·subst e
   rw [ht] at h1;cases h1;exact ⟨hb,fr',us,T,lo,hh,by simp [hlt],h2,h3,by omega,fun o v hv=>by have:=h5 o v hv;omega⟩
  ·exact ⟨hb,f0,us,T',lo,hh,by rw [anZ,if_neg (fun h=>e h.symm)];exact h1,h2,h3,h4,h5⟩
theorem Inv.aez(hi:Inv K H w)(T:TypeId):Inv (K.push 0) (H++[.tok 0 T]) w:=by
 have hle:=K.aaI 0;refine ⟨hi.below,hi.base,hi.ZO,by simp [aC.push,aC.ZJ,hi.len],fun id y hy => ?_,fun i j y z hy hz ly lz hij => ?_,fun b t n h => ?_,fun g cs hg=>(hi.ZC g cs hg).mono hle,hi.shape⟩
 ·rcases rj hy with hy | ⟨rfl,rfl⟩
  ·exact (hi.obj id y hy).mono hle (fun b _ _ _=>rfl) (fun _ _ _=>⟨fun _ h=>h,fun h=>h,fun h=>h⟩)
  ·trivial
 ·rcases rj hy with hy | ⟨rfl,rfl⟩
  ·rcases rj hz with hz | ⟨rfl,rfl⟩
   ·have h1:=(al3.1 hy).1
    have h2:=(al3.1 hz).1;rw [← hi.len] at h1 h2;show (K.loc++[0])[i]?≠(K.loc++[0])[j]?;rw [al7 h1,al7 h2];exact hi.inj i j y z hy hz ly lz hij
   ·cases lz
  ·cases ly
 ·have h':K.own b=some (t,n):=h
  obtain ⟨hb,fr,vs,T,lo,hh,h1,h2⟩:=hi.own b t n h';exact ⟨hb,fr,vs,T,lo,hh,by rw [al7 (al3.1 h1).1];exact h1,h2⟩
theorem heap_setCell(w:World)(b o:Nat)(u:Value)(vs:Array Value)(T:TypeId)(f:Nat×Nat)(h:w.heap[b]?=some (.cells vs T f))(b':Nat) :
  (w.setCell ⟨b,o,none⟩ u).heap[b']?=if b'=b then some (.cells (vs.setIfInBounds o u) T f) else w.heap[b']? := by
 simp only [World.setCell,ang]
 by_cases e:b'=b
 ·subst e;simp [h]
 ·rw [if_neg (fun h=>e h.symm),if_neg e]
theorem CA(w:World)(b o:Nat)(u:Value):uv w (w.setCell ⟨b,o,none⟩ u):=by
 constructor
 ·intro b' vs T f h
  by_cases e:b'=b
  ·subst e
   exact ⟨_,f,by rw [heap_setCell w b' o u vs T f h,if_pos rfl],by simp⟩
  ·refine ⟨vs,f, ?_,rfl⟩
   simp only [World.setCell,ang];rw [if_neg (fun h=>e h.symm)];exact h
 ·intro b' es c h
  simp only [World.setCell,ang]
  by_cases e:b=b'
  ·subst e;simp [h]
  ·rw [if_neg e];exact h
 ·intro b' o' h hf
  simp only [World.setCell,ang]
  by_cases e:b=b'
  ·subst e;cases o'<;>first | (cases hf;done) | simp [h]
  ·rw [if_neg e];exact h
theorem Inv.store(hi:Inv K H w){id off b:Nat}{cs:List AV}{v:AV}{x:Value}{T0:TypeId}(hx:H[id]?=some (.cells cs T0))(ho:off<cs.length)(hb:K.loc[id]?=some b)(hv:V K v x) :
  Inv K (H.set id (.cells (cs.set off v) T0)) (w.setCell ⟨b,off,none⟩ x):=by
 obtain ⟨b',vs,T,h1,h2,h3,h4,h5,h6,h7,h8,h9⟩:=hi.obj id _ hx;rw [hb] at h1;cases h1;have hlt:=(al3.1 hx).1;have hheap:=heap_setCell w b off x vs T (0,0) h3;have hget:∀ (i:Nat) (y:Y4),(H.set id (.cells (cs.set off v) T0))[i]?=some y→(i=id∧y = .cells (cs.set off v) T0)∨(i≠id∧H[i]?=some y):=fun i y hy=>ka hy
 refine ⟨hi.below.setCell h2 x,fun b h=>hi.base b (by simpa [World.setCell] using h),fun b' o' v' h => ?_,by simp [hi.len],fun i y hy => ?_,fun i j y z hy hz ly lz hij => ?_,fun b' t n h => ?_,hi.ZC,fun b' s h=>(CA w b off x).shp (hi.shape b' s h)⟩
 ·have hne:b'≠b:=fun e=>by subst e;rw [h6 o'] at h;cases h
  rw [mh (w:=w) (by rw [hheap,if_neg hne])];exact hi.ZO _ _ _ h
 ·rcases hget i y hy with ⟨rfl,rfl⟩ | ⟨hne,hy⟩
  ·refine ⟨b,vs.setIfInBounds off x,T,hb,h2,by rw [hheap,if_pos rfl],by simpa using h4,fun k av hk => ?_,h6,h7,by rw [h8];simp,h9⟩
   rcases ka hk with ⟨rfl,rfl⟩ | ⟨e,hk⟩
   ·have:k<vs.size:=by omega
    simpa [amd,this] using hv
   ·have:=h5 k av hk
    simpa [amd,anf (fun h=>e h.symm)] using this
  ·by_cases ly:y.live=true
   ·obtain ⟨by',hy1,_,_⟩:=hi.ZF hy ly
    have hne2:by'≠b:=fun e=>by
     subst e;exact hi.inj i id y _ hy hx ly rfl hne (hy1.trans hb.symm)
    exact (hi.obj i y hy).mono (.refl K) (fun b'' hb'' _ _=>by rw [hy1] at hb'';cases hb'';rw [hheap,if_neg hne2]) (fun _ _ _=>⟨fun _ h=>h,fun h=>h,fun h=>h⟩)
   ·cases y<;>first | exact absurd rfl ly | trivial
 ·have key:∀ (i:Nat) (y:Y4),(H.set id (.cells (cs.set off v) T0))[i]?=some y→y.live=true→∃ y',H[i]?=some y'∧y'.live=true:=fun i y hy ly=>by
   rcases hget i y hy with ⟨rfl,rfl⟩ | ⟨_,h⟩
   ·exact ⟨_,hx,rfl⟩
   ·exact ⟨y,h,ly⟩
  obtain ⟨y',hy',ly'⟩:=key i y hy ly;obtain ⟨z',hz',lz'⟩:=key j z hz lz;exact hi.inj i j y' z' hy' hz' ly' lz' hij
 ·obtain ⟨hb',fr,us,T',lo,hh,h1',h2',h3'⟩:=hi.own b' t n h
  have hne:b'≠b:=fun e=>by subst e;rw [h7] at h;cases h
  refine ⟨hb',fr,us,T',lo,hh, ?_,by rw [hheap,if_neg hne];exact h2',h3'⟩;rw [anZ,if_neg (fun e=>by subst e;rw [hx] at h1';cases h1')];exact h1'
theorem Inv.iter(hi:Inv K H w){id b pos pos':Nat}{s:List UInt8}(hx:H[id]?=some (.aaj s pos))(hb:K.loc[id]?=some b) :
  Inv K (H.set id (.aaj s pos')) { w with heap:=w.heap.setIfInBounds b (.stringIter ⟨s.toArray⟩ pos') }:=by
 obtain ⟨b',h1,h2,h3,h30⟩:=hi.obj id _ hx;rw [hb] at h1;cases h1;have hbl:=(amh.1 h3).1;have hlt:=(al3.1 hx).1
 have hheap:∀ b',(w.heap.setIfInBounds b (.stringIter ⟨s.toArray⟩ pos'))[b']?=if b'=b then some (.stringIter ⟨s.toArray⟩ pos') else w.heap[b']? := fun b'=>by
  by_cases e:b'=b
  ·subst e;simp [hbl]
  ·rw [anf (fun h=>e h.symm),if_neg e]
 have hget:∀ (i:Nat) (y:Y4),(H.set id (.aaj s pos'))[i]?=some y→(i=id∧y = .aaj s pos')∨(i≠id∧H[i]?=some y):=fun i y hy=>ka hy
 have hnc:∀ vs T f,w.heap[b]?≠some (.cells vs T f):=fun vs T f h=>by rw [h3] at h;cases h
 refine ⟨hi.below.trans ⟨rfl,rfl,rfl,by simp,fun k hk => ?_⟩,fun b h=>hi.base b (by simpa using h),fun b' o' v' h => ?_,by simp [hi.len],fun i y hy => ?_,fun i j y z hy hz ly lz hij => ?_,fun b' t n h => ?_,hi.ZC,fun b' s h => ?_⟩
 ·show (w.heap.setIfInBounds b _)[k]?=_
  rw [hheap,if_neg (fun e=>hk (by rw [e];exact h2))]
 ·have hc:=hi.ZO _ _ _ h
  have hne:b'≠b:=fun e=>by subst e;obtain ⟨vs,T,f,h',_⟩:=zq hc;exact hnc _ _ _ h'
  rw [mh (w:=w) (by show (w.heap.setIfInBounds b _)[b']?=_;rw [hheap,if_neg hne])];exact hc
 ·rcases hget i y hy with ⟨rfl,rfl⟩ | ⟨hne,hy⟩
  ·exact ⟨b,hb,h2,by show (w.heap.setIfInBounds b _)[b]?=_;rw [hheap,if_pos rfl],h30⟩
  ·by_cases ly:y.live=true
   ·obtain ⟨by',hy1,_,_⟩:=hi.ZF hy ly
    have hne2:by'≠b:=fun e=>by subst e;exact hi.inj i id y _ hy hx ly rfl hne (hy1.trans hb.symm)
    exact (hi.obj i y hy).mono (.refl K) (fun b'' hb'' _ _=>by rw [hy1] at hb'';cases hb'';show (w.heap.setIfInBounds b _)[_]?=_;rw [hheap,if_neg hne2]) (fun _ _ _=>⟨fun _ h=>h,fun h=>h,fun h=>h⟩)
   ·cases y<;>first | exact absurd rfl ly | trivial
 ·have key:∀ (i:Nat) (y:Y4),(H.set id (.aaj s pos'))[i]?=some y→y.live=true→∃ y',H[i]?=some y'∧y'.live=true:=fun i y hy ly=>by
   rcases hget i y hy with ⟨rfl,rfl⟩ | ⟨_,h⟩
   ·exact ⟨_,hx,rfl⟩
   ·exact ⟨y,h,ly⟩
  obtain ⟨y',hy',ly'⟩:=key i y hy ly;obtain ⟨z',hz',lz'⟩:=key j z hz lz;exact hi.inj i j y' z' hy' hz' ly' lz' hij
 ·obtain ⟨hb',fr,us,T',lo,hh,h1',h2',h3'⟩:=hi.own b' t n h
  have hne:b'≠b:=fun e=>by subst e;exact hnc _ _ _ h2'
  refine ⟨hb',fr,us,T',lo,hh, ?_,by show (w.heap.setIfInBounds b _)[b']?=_;rw [hheap,if_neg hne];exact h2',h3'⟩;rw [anZ,if_neg (fun e=>by subst e;rw [hx] at h1';cases h1')];exact h1'
 ·have hne:b'≠b:=fun e=>by subst e;rw [h30] at h;cases h
  have hsh:=hi.shape b' s h;have hh:(w.heap.setIfInBounds b (.stringIter ⟨_⟩ pos'))[b']?=w.heap[b']? := (hheap b').trans (if_neg hne);cases s with
  |rows n=>obtain ⟨vs,T,f,h1,h2⟩:=hsh;exact ⟨vs,T,f,hh.trans h1,h2⟩
  |ac0 es=>obtain ⟨c,h1⟩:=hsh;exact ⟨c,hh.trans h1⟩
  |fix o=>exact ⟨hh.trans hsh.1,hsh.2⟩
end
theorem qT(b:Nat):∀ (l:List Value) (o:Nat) (w:World) (b':Nat),b'≠b→(w.setCells b o l).heap[b']?=w.heap[b']?
 |[],_,_,_,_=>rfl
 |v::r,o,w,b',h=>by
  rw [World.setCells,qT b r (o+1) _ b' h];exact Below.heap_setCell w ⟨b,o,none⟩ v b' h
theorem wc(b:Nat):∀ (l:List Value) (o:Nat) (w:World) (vs:Array Value) (T:TypeId) (f:Nat×Nat),w.heap[b]?=some (.cells vs T f) →
  ∃ vs':Array Value,(w.setCells b o l).heap[b]?=some (.cells vs' T f)∧vs'.size=vs.size
 |[],_,_,vs,T,f,h=>⟨vs,h,rfl⟩
 |v::r,o,w,vs,T,f,h=>by
  obtain ⟨vs',h1,h2⟩:=wc b r (o+1) (w.setCell ⟨b,o,none⟩ v) (vs.setIfInBounds o v) T f (by rw [heap_setCell w b o v vs T f h,if_pos rfl]);exact ⟨vs',h1,by simpa using h2⟩
theorem A6(b:Nat):∀ (l:List Value) (o:Nat) (w:World),uv w (w.setCells b o l)
 |[],_,_=>.of_lt fun _ _=>rfl
 |v::r,o,w=>
  have h1:=CA w b o v;have h2:=A6 b r (o+1) (w.setCell ⟨b,o,none⟩ v)
  ⟨fun b vs T f h=>let ⟨vs',f',h3,h4⟩:=h1.cells b vs T f h;let ⟨vs'',f'',h5,h6⟩:=h2.cells b vs' T f' h3;⟨vs'',f'',h5,h6.trans h4⟩,fun b es c h=>h2.map b es c (h1.map b es c h),fun b o h hf=>h2.fix b o (h1.fix b o h hf) hf⟩
theorem A7{B:Nat→Prop}{w0:World}(b:Nat)(hb:B b):∀ (l:List Value) (o:Nat) (w:World),uu B w0 w→uu B w0 (w.setCells b o l)
 |[],_,_,h=>h
 |v::r,o,_,h=>A7 b hb r (o+1) _ (h.setCell (p:=⟨b,o,none⟩) hb v)
theorem CB(b:Nat):∀ (l:List Value) (o:Nat) (w:World),(w.setCells b o l).heap.size=w.heap.size
 |[],_,_=>rfl
 |_::r,o,_=>by rw [World.setCells,CB b r (o+1) _];simp
section
variable{K:aC}{H:List Y4}{w:World}
theorem Inv.af1(hi:Inv K H w){b t n fr:Nat}(l:List Value)(hown:K.own b=some (t,n)){T0:TypeId}(ht:H[t]?=some (.tok fr T0))(hn:fr+l.length≤n) :
  Inv (K.ext b (fun o=>if fr≤o then l[o-fr]? else none)) (H.set t (.tok (fr+l.length) T0)) (w.setCells b fr l):=by
 obtain ⟨hb,fr',us,T,lo,hh,h1,h2,h3,h4,h5⟩:=hi.own b t n hown;rw [ht] at h1;cases h1;have hlt:=(al3.1 ht).1
 have hcell:∀ j,j<l.length→(w.cell? ⟨b,fr+j,none⟩).isSome=true:=fun j hj=>by
  rw [de h2];simp;omega
 obtain ⟨us',hus',hsz⟩:=wc b l fr w us T0 (lo,hh) h2
 have hle:=K.abL b (fun o=>if fr≤o then l[o-fr]? else none) hb fun o v h=>by
  have:=h5 o v h;rw [if_neg (by omega)]
 refine ⟨A7 b hb l fr w hi.below,fun b h=>hi.base b (by rwa [CB] at h),fun b' o v h => ?_,by simp [aC.ext,hi.len],fun i y hy => ?_,fun i j y z hy hz ly lz hij => ?_,fun b' t' n' h => ?_,fun g cs hg=>(hi.ZC g cs hg).mono hle,fun b' s h=>(A6 b l fr w).shp (hi.shape b' s h)⟩
 ·rcases aC.abO h with ⟨rfl,h'⟩ | h'
  ·split at h'
   ·rename_i hf
    obtain ⟨j,rfl⟩:∃ j,o=fr+j:=⟨o-fr,by omega⟩
    simp only [Nat.add_sub_cancel_left] at h';have hj:=(al3.1 h').1;rw [World.cell?_setCells_in b' l fr w hcell j hj];rw [← h',al4 hj]
   ·cases h'
  ·rw [World.cell?_setCells_out b l fr w _ (fun e _=>by
    subst e;exact .inl (h5 o v h'))]
   exact hi.ZO _ _ _ h'
 ·rcases ka hy with ⟨rfl,rfl⟩ | ⟨hne,hy⟩
  ·trivial
  ·by_cases ly:y.live=true
   ·obtain ⟨by',hy1,_,_⟩:=hi.ZF hy ly
    by_cases hne2:by'=b
    ·subst hne2
     have:=hi.obj i y hy;exfalso;cases y with
     |dead=>cases ly
     |tok=>cases ly
     |cells cs T0=>obtain ⟨b2,vs2,T2,e1,_,_,_,_,_,e7,_⟩:=this;rw [hy1] at e1;cases e1;rw [e7] at hown;cases hown
     |aaj s p=>obtain ⟨b2,e1,_,e3,_⟩:=this;rw [hy1] at e1;cases e1;rw [e3] at h2;cases h2
     |map es=>obtain ⟨b2,me,cl,e1,_,e3,_⟩:=this;rw [hy1] at e1;cases e1;rw [e3] at h2;cases h2
    ·refine (hi.obj i y hy).mono hle (fun b'' hb'' _ _=>by rw [hy1] at hb'';cases hb'';exact qT b l fr w _ hne2) (fun b'' hb'' _=>⟨fun o h => ?_,fun h=>h,fun h=>h⟩)
     rw [hy1] at hb'';cases hb'';show (if _=b then _ else _)=_;rw [if_neg hne2];exact h
   ·cases y<;>first | exact absurd rfl ly | trivial
 ·rcases ka hy with ⟨_,rfl⟩ | ⟨_,hy⟩
  ·cases ly
  ·rcases ka hz with ⟨_,rfl⟩ | ⟨_,hz⟩
   ·cases lz
   ·exact hi.inj i j y z hy hz ly lz hij
 ·have h':K.own b'=some (t',n'):=h
  obtain ⟨hb',fr2,vs2,T2,lo2,hh2,e1,e2,e3,e4,e5⟩:=hi.own b' t' n' h'
  have hheap:∃ vs3:Array Value,(w.setCells b fr l).heap[b']?=some (.cells vs3 T2 (lo2,hh2))∧vs3.size=n':=by
   by_cases e:b'=b
   ·subst e
    rw [h2] at e2;cases e2;exact ⟨us',hus',hsz.trans e3⟩
   ·exact ⟨vs2,by rw [qT b l fr w b' e];exact e2,e3⟩
  obtain ⟨vs3,g1,g2⟩:=hheap
  by_cases et:t'=t
  ·subst et
   rw [ht] at e1;cases e1;refine ⟨hb',fr+l.length,vs3,T0,lo2,hh2,by simp [hlt],g1,g2,by omega,fun o v hv => ?_⟩;rcases aC.abO hv with ⟨rfl,h9⟩ | hv
   ·split at h9
    ·have:=(al3.1 h9).1;omega
    ·cases h9
   ·have:=e5 o v hv;omega
  ·refine ⟨hb',fr2,vs3,T2,lo2,hh2,by rw [ami (fun h=>et h.symm)];exact e1,g1,g2,e4,fun o v hv => ?_⟩
   rcases aC.abO hv with ⟨rfl,hv⟩ | hv
   ·rw [h'] at hown;cases hown;exact absurd rfl et
   ·exact e5 o v hv
theorem Inv.kill(hi:Inv K H w){id:Nat}{x:Y4}(hx:H[id]?=some x)(hl:x.live=true):Inv K (H.set id .dead) w:=by
 refine ⟨hi.below,hi.base,hi.ZO,by simp [hi.len],fun i y hy => ?_,fun i j y z hy hz ly lz hij => ?_,fun b t n h => ?_,hi.ZC,hi.shape⟩
 ·rcases ka hy with ⟨_,rfl⟩ | ⟨_,hy⟩
  ·trivial
  ·exact hi.obj i y hy
 ·rcases ka hy with ⟨_,rfl⟩ | ⟨_,hy⟩
  ·cases ly
  ·rcases ka hz with ⟨_,rfl⟩ | ⟨_,hz⟩
   ·cases lz
   ·exact hi.inj i j y z hy hz ly lz hij
 ·obtain ⟨hb,fr,us,T,lo,hh,h1,h2⟩:=hi.own b t n h
  refine ⟨hb,fr,us,T,lo,hh, ?_,h2⟩;rw [ami (fun e=>by subst e;rw [hx] at h1;cases h1;cases hl)];exact h1
def aC.Zy(K:aC)(n:Nat):aC := { K with own:=fun b=>(K.own b).bind fun x=>if x.1<n then some x else none,loc:=K.loc.take n }
theorem aC.abb{K:aC}{n b t m:Nat}(h:(K.Zy n).own b=some (t,m)):K.own b=some (t,m)∧t<n:=by
 simp only [aC.Zy] at h;cases ho:K.own b with
 |none=>simp [ho] at h
 |some x=>
  simp only [ho,Option.bind_some] at h;split at h
  ·rename_i hx;cases h;exact ⟨rfl,hx⟩
  ·cases h
theorem A8{K:aC}{n:Nat}{tag:Tag}{b o esz:Nat}{rows:List (List AV)}{cap:Nat}(h:Cy K tag b o esz rows cap)(ht:∀ t,tag = .own t→t<n):Cy (K.Zy n) tag b o esz rows cap:=by
 cases tag with
 |any=>trivial
 |some=>trivial
 |full=>exact h
 |nil=>exact h
 |own t=>
  have hlt:=ht t rfl;refine ⟨by simp [aC.Zy];have:=h.1;omega,h.2.imp id fun h2=>⟨h2.1, ?_⟩⟩;simp [aC.Zy,h2.2,hlt]
theorem kD{K:aC}{n id b:Nat}(h:K.loc[id]?=some b)(hlt:id<n):(K.Zy n).loc[id]?=some b:=by
 show (K.loc.take n)[id]?=_;rw [amE,if_pos hlt];exact h
theorem V.Zy{K K':aC}{n:Nat}(hn:K.loc.length=n){a:AV}{v0 v:Value}(h0:V K a v0)(h:V K' a v):V (K'.Zy n) a v:=by
 induction h generalizing v0 with
 |ZW v=>exact .ZW v
 |bool b=>exact .bool b
 |int k n=>exact .int k n
 |str s=>exact .str s
 |ZB=>exact .ZB
 |ptr id off b hb=>
  cases h0 with
  |ptr _ _ b0 h0=>exact .ptr id off b (kD hb (by rw [← hn];exact (al3.1 h0).1))
 |Zu esz rows i off b o vs hl hi hv ih=>
  cases h0 with
  |Zu _ _ _ _ b0 o0 vs0 hl0 hi0 hv0=>exact .Zu esz rows i off b o vs hl hi (fun i j r av h1 h2=>ih i j r av h1 h2 (hv0 i j r av h1 h2))
 |Zo tag esz a ht=>
  refine .Zo tag esz a ⟨fun t e => ?_,ht.2⟩;subst e
  have:t<n:=by
   rw [← hn];cases h0 with
   |Zo _ _ _ h=>exact (h.1 t rfl).1
   |Zk _ _ _ _ e=>simp at e
   |slice _ _ _ b0 o0 cap0 vs0 hl0 hi0 hv0 hc0 ht0=>exact ht0.1
  have h2:=ht.1 t rfl;refine ⟨?_,h2.2⟩;show t<(_:List Nat).length;simp only [aC.Zy,an7];omega
 |Zk tag esz a cap h=>exact .Zk tag esz a cap h
 |slice tag esz rows b o cap vs hl hi hv hc ht ih=>
  have hrow:∀ (i j:Nat) (r:List AV) (av:AV),rows[i]?=some r→r[j]?=some av→∃ v0,V K av v0:=by
   cases h0 with
   |Zo=>intro i j r av h1;cases i<;>simp at h1
   |Zk=>intro i j r av h1;cases i<;>simp at h1
   |slice _ _ _ b0 o0 cap0 vs0 hl0 hi0 hv0 hc0 ht0=>exact fun i j r av h1 h2=>⟨_,hv0 i j r av h1 h2⟩
  have htag:∀ t,tag = .own t→t<n:=by
   intro t e;subst e;cases h0 with
   |Zo _ _ _ h=>rw [← hn];exact (h.1 t rfl).1
   |Zk _ _ _ _ e=>simp at e
   |slice _ _ _ b0 o0 cap0 vs0 hl0 hi0 hv0 hc0 ht0=>rw [← hn];exact ht0.1
  exact .slice tag esz rows b o cap vs hl hi (fun i j r av h1 h2=>let ⟨v0,h3⟩:=hrow i j r av h1 h2;ih i j r av h1 h2 h3) hc (A8 ht htag)
 |Za id off len esz room b cap hb hc hs=>
  cases h0 with
  |Za _ _ _ _ _ b0 cap0 h0 hc0=>exact .Za id off len esz room b cap (kD hb (by rw [← hn];exact (al3.1 h0).1)) hc hs
 |Z2 es b mes hb hl hk hv ih1 ih2=>
  cases h0 with
  |Z2 _ b0 mes0 hb0 hl0 hk0 hv0=>exact .Z2 es b mes hb hl (fun i k v hi=>ih1 i k v hi (hk0 i k v hi)) (fun i k v hi=>ih2 i k v hi (hv0 i k v hi))
 |ZG=>exact .ZG
 |map id b hb=>
  cases h0 with
  |map _ b0 h0=>exact .map id b (kD hb (by rw [← hn];exact (al3.1 h0).1))
 |aba t p=>exact .aba t p
 |sdp t rows b cap vs htl ho hl hi hv hc ih=>
  cases h0 with
  |aba=>exact .aba _ _
  |sdp _ _ b0 cap0 vs0 htl0 ho0 hl0 hi0 hv0 hc0=>
   have htn:t<n:=by rw [← hn];exact htl0
   exact .sdp t rows b cap vs (by show t<(_:List Nat).length;simp only [aC.Zy,an7];omega) (by simp [aC.Zy,ho,htn]) hl hi (fun i j r av h1 h2=>ih i j r av h1 h2 (hv0 i j r av h1 h2)) hc
 |fn f first captured vs us h1 h2 hv hu ih1 ih2=>
  cases h0 with
  |fn _ _ _ vs0 us0 e1 e2 e3 e4=>exact .fn f first captured vs us h1 h2 (fun i av hi=>ih1 i av hi (e3 i av hi)) (fun i av hi=>ih2 i av hi (e4 i av hi))
 |Zw=>exact .Zw
 |iface t v x hx ih=>cases h0 with | iface _ _ x0 h0=>exact .iface t v x (ih h0)
 |Zr=>exact .Zr
 |agg cs vs h1 hv ih=>cases h0 with | agg _ vs0 e1 e2=>exact .agg cs vs h1 (fun i av hi=>ih i av hi (e2 i av hi))
 |tuple cs vs h1 hv ih=>cases h0 with | tuple _ vs0 e1 e2=>exact .tuple cs vs h1 (fun i av hi=>ih i av hi (e2 i av hi))
theorem Inv.Zy(hi:Inv K H w)(n:Nat)
  (hs:∀ (i:Nat) (cs:List AV) (T0:TypeId),i<n→H[i]?=some (.cells cs T0)→∀ (j:Nat) (av:AV) (v:Value),cs[j]?=some av→V K av v→V (K.Zy n) av v)
  (hm:∀ (i:Nat) (es:List (AV×AV)),i<n→H[i]?=some (.map es)→∀ (j:Nat) (x y:AV) (v:Value),es[j]?=some (x,y)→(V K x v→V (K.Zy n) x v)∧(V K y v→V (K.Zy n) y v))
  (hgl:∀ (g:Nat) (cs:List AV),K.ZC g=some cs→V (K.Zy n) (.Zu cs.length [cs] 0 0) (.pointer (some ⟨g,0,none⟩))) :
  Inv (K.Zy n) (H.take n) w:=by
 have hget:∀ (i:Nat) (y:Y4),(H.take n)[i]?=some y→i<n∧H[i]?=some y:=fun i y h=>by
  rw [amE] at h;split at h
  ·rename_i hlt;exact ⟨hlt,h⟩
  ·cases h
 have hloc:∀ i,i<n→(K.loc.take n)[i]?=K.loc[i]? := fun i h=>by rw [amE,if_pos h]
 refine ⟨hi.below,hi.base,hi.ZO,by simp [aC.Zy,hi.len],fun i y hy => ?_,fun i j y z hy hz ly lz hij => ?_,fun b t m h => ?_,hgl,hi.shape⟩
 ·obtain ⟨hlt,hy⟩:=hget i y hy
  have:=hi.obj i y hy;have hV:∀ b,K.loc[i]?=some b→(K.Zy n).loc[i]?=some b:=fun b h=>(hloc i hlt).trans h
  cases y with
  |dead=>trivial
  |tok=>trivial
  |cells cs T0=>
   obtain ⟨b,vs,T,h1,h2,h3,h4,h5,h6,h7,h8,h9⟩:=this;exact ⟨b,vs,T,hV b h1,h2,h3,h4,fun j av hj=>hs i cs T0 hlt hy j av _ hj (h5 j av hj),h6,by simp [aC.Zy,h7],h8,h9⟩
  |aaj s p=>obtain ⟨b,h1,h2⟩:=this;exact ⟨b,hV b h1,h2⟩
  |map es=>
   obtain ⟨b,me,cl,h1,h2,h3,h4,h5,h9⟩:=this;refine ⟨b,me,cl,hV b h1,h2,h3,h4,fun j x y hj => ?_,h9⟩;obtain ⟨e,he,h6,h7⟩:=h5 j x y hj;exact ⟨e,he,(hm i es hlt hy j x y _ hj).1 h6,(hm i es hlt hy j x y _ hj).2 h7⟩
 ·obtain ⟨h1,hy⟩:=hget i y hy
  obtain ⟨h2,hz⟩:=hget j z hz;show (K.loc.take n)[i]?≠(K.loc.take n)[j]?;rw [hloc i h1,hloc j h2];exact hi.inj i j y z hy hz ly lz hij
 ·obtain ⟨h,hlt⟩:=aC.abb h
  obtain ⟨hb,fr,us,T,lo,hh,h1,h2⟩:=hi.own b t m h;exact ⟨hb,fr,us,T,lo,hh,by rw [amE,if_pos hlt];exact h1,h2⟩
theorem aC.adQ{K K':aC}(h:K.le K')(ho:∀ b t m,K.own b=some (t,m)→t<K.loc.length):K.le (K'.Zy K.loc.length):=
 ⟨h.ZO,fun b x hx=>by
  have:=h.own b x hx;have hlt:=ho b x.1 x.2 hx;simp [aC.Zy,this,hlt],fun i b hb=>kD (h.loc i b hb) (al3.1 hb).1,h.base,h.w0,h.ZC,h.shape,h.low⟩
theorem Inv.ae4(hi:Inv K H w)(b t m:Nat)(h:K.own b=some (t,m)):t<K.loc.length:=by
 obtain ⟨_,fr,_,_,_,_,h1,_⟩:=hi.own b t m h;rw [hi.len];exact (al3.1 h1).1
theorem Inv.back{K':aC}{H':List Y4}{w':World}(hi:Inv K H w)(hi':Inv K' H' w')(hk:K.le K')(ht:H'.take H.length=H) :
  Inv (K'.Zy H.length) H w'∧K.le (K'.Zy H.length):=by
 have hget:∀ (i:Nat) (y:Y4),i<H.length→H'[i]?=some y→H[i]?=some y:=fun i y hlt h=>by
  rw [← ht,amE,if_pos hlt];exact h
 constructor
 ·have:=hi'.Zy H.length (fun i cs T0 hlt hcs j av v hj hv=>by
   obtain ⟨b,vs,T,h1,h2,h3,h4,h5,_⟩:=hi.obj i _ (hget i _ hlt hcs);exact (h5 j av hj).Zy hi.len hv) (fun i es hlt hes j x y v hj=>by
   obtain ⟨b,me,cl,h1,h2,h3,h4,h5,_⟩:=hi.obj i _ (hget i _ hlt hes);obtain ⟨e,_,h6,h7⟩:=h5 j x y hj;exact ⟨fun hv=>h6.Zy hi.len hv,fun hv=>h7.Zy hi.len hv⟩)
   (fun g cs hg=>(hi.ZC g cs (by rw [← hk.ZC];exact hg)).Zy hi.len (hi'.ZC g cs hg))
  rwa [ht] at this
 ·rw [← hi.len];exact aC.adQ hk hi.ae4
end
def AV.cell:AV→Bool
 |.agg _ | .tuple _ | .ZW=>false
 |_=>true
def dM:AV→Option (List AV)
 |.agg cs=>some cs
 |.tuple _ | .ZW=>none
 |v=>some [v]
def bq:List AV→Nat→List AV→List AV
 |cs,_,[]=>cs
 |cs,o,v::r=>bq (cs.set o v) (o+1) r
def Mg(P:Program)(t:TypeId):Option Bool:=
 match P.underlying t with
 |some (.struct _) | some (.array _ _)=>some true
 |some _=>some false
 |none=>none
def iX(P:Program)(t:TypeId):Option Nat:=(P.info? t).map (·.size)
def AE(P:Program)(t:TypeId):Option (List AV):=
 match P.info? t with
 |some i=>match i.zero with
  |some z=>dM (lH z)
  |none=>none
 |none=>none
def A9(P:Program)(t:TypeId)(cs:List AV)(off:Nat):Option AV:=
 match Mg P t,iX P t with
 |some true,some n=>if off+n≤cs.length then some (.agg ((cs.drop off).take n)) else none
 |some false,some _=>cs[off]?
 |_,_=>none
def xl(P:Program)(H:List Y4)(t:TypeId):AV→Option AV
 |.ptr id off=>match H[id]? with
  |some (.cells cs _)=>A9 P t cs off
  |_=>none
 |.Zu _ rows i off=>match rows[i]? with
  |some r=>A9 P t r off
  |none=>none
 |_=>none
def Ba(P:Program)(H:List Y4)(t:TypeId)(x v:AV):Option (List Y4):=
 match x,dM v,iX P t with
 |.ptr id off,some cs,some n=>match H[id]? with
  |some (.cells old T)=>if cs.length=n∧off+n≤old.length∧cs.all AV.cell=true then some (H.set id (.cells (bq old off cs) T)) else none
  |_=>none
 |_,_,_=>none
def EJ(P:Program)(s:TypeId)(f:Nat):Option (TypeId×Nat):=
 match P.underlying s with
 |some (.struct fields)=>match fields[f]? with
  |some x=>some (x.type,x.offset)
  |none=>none
 |_=>none
def Dw(P:Program)(s:TypeId)(x:AV)(f:Nat):Option AV:=
 match EJ P s f with
 |some (t,o)=>match iX P t with
  |some (_+1)=>match x with
   |.ptr id off=>some (.ptr id (off+o))
   |.Zu esz rows i off=>some (.Zu esz rows i (off+o))
   |_=>none
  |_=>none
 |none=>none
def KW(P:Program)(s:TypeId)(x:AV)(f:Nat):Option AV:=
 match EJ P s f,x with
 |some (t,o),.agg cs=>A9 P t cs o
 |_,_=>none
def Bb(P:Program)(t:TypeId)(x ix:AV):Option AV:=
 match P.underlying t,x,ix with
 |some (.slice e),.slice _ esz rows,.int _ n=>match iX P e with
  |some sz=>if sz=esz∧0≤n∧n<rows.length then some (.Zu esz rows n.toNat 0) else none
  |none=>none
 |some (.slice e),.Za id off len esz _,.int _ n=>match iX P e with
  |some sz=>if sz=esz∧0≤n∧n<len then some (.ptr id (off+n.toNat*esz)) else none
  |none=>none
 |some (.array len e),.ptr id off,.int _ n=>match iX P e with
  |some sz=>if 0≤n∧n<len then some (.ptr id (off+n.toNat*sz)) else none
  |none=>none
 |some (.array len e),.Zu esz rows i off,.int _ n=>match iX P e with
  |some sz=>if 0≤n∧n<len then some (.Zu esz rows i (off+n.toNat*sz)) else none
  |none=>none
 |_,_,_=>none
def Hs(P:Program)(t:TypeId)(x ix:AV):Option AV:=
 match P.underlying t,x,ix with
 |some .string,.str s,.int _ n=>if 0≤n then (match s[n.toNat]? with | some b=>some (.int .u8 b.toNat) | none=>none) else none
 |some (.array len e),.agg cs,.int _ n=>match iX P e with
  |some sz=>if 0≤n∧n<len then A9 P e cs (n.toNat*sz) else none
  |none=>none
 |_,_,_=>none
def fX(x:Option AV)(d:Nat):Option Nat:=
 match x with
 |none=>some d
 |some (.int _ n)=>if 0≤n then some n.toNat else none
 |_=>none
def CR(P:Program)(t:TypeId)(x:AV)(lo hi mx:Option AV):Option AV:=
 match P.underlying t,x with
 |some .string,.str s=>match fX lo 0,fX hi s.length,mx with
  |some l,some h,none=>if l≤h∧h≤s.length then some (.str ((s.drop l).take (h-l))) else none
  |_,_,_=>none
 |some (.slice e),.slice tag esz rows=>match fX lo 0,fX hi rows.length,fX mx rows.length,iX P e with
  |some l,some h,some m,some sz=>
   if sz=esz∧l≤h∧h≤m∧m≤rows.length then some (.slice (if rows.isEmpty=true∧tag = .nil∧mx.isNone=true then .nil else if mx.isSome=true∧m=h then .full else .any) esz ((rows.drop l).take (h-l))) else none
  |_,_,_,_=>none
 |some (.slice e),.Za id off len esz room=>match fX lo 0,fX hi len,mx,iX P e with
  |some l,some h,none,some sz=>if sz=esz∧(l<h∨(l=0∧h=0))∧h≤len then some (.Za id (off+l*esz) (h-l) esz room) else if sz=esz∧l=h∧h≤len then some (.slice .any esz []) else none
  |_,_,_,_=>none
 |some (.array n e),.ptr id off=>match fX lo 0,fX hi n,mx,iX P e with
  |some l,some h,none,some sz=>if l<h∧h≤n then some (.Za id (off+l*sz) (h-l) sz false) else none
  |_,_,_,_=>none
 |_,_=>none
def mj(op:BinOp)(k:IntKind)(m n:Int):Option AV:=
 match op with
 |.add=>some (.int k (k.wrap (m+n)))
 |.sub=>some (.int k (k.wrap (m-n)))
 |.mul=>some (.int k (k.wrap (m*n)))
 |.quo=>if n=0 then none else some (.int k (k.wrap (m.tdiv n)))
 |.rem=>if n=0 then none else some (.int k (m.tmod n))
 |.eql=>some (.bool (m == n))
 |.neq=>some (.bool (m != n))
 |.lss=>some (.bool (decide (m<n)))
 |.leq=>some (.bool (decide (m≤n)))
 |.gtr=>some (.bool (decide (m > n)))
 |.geq=>some (.bool (decide (m ≥ n)))
 |.and=>some (.int k (k.wrap (BitVec.ofInt k.bits m &&& BitVec.ofInt k.bits n).toNat))
 |.or=>some (.int k (k.wrap (BitVec.ofInt k.bits m ||| BitVec.ofInt k.bits n).toNat))
 |.xor=>some (.int k (k.wrap (BitVec.ofInt k.bits m ^^^ BitVec.ofInt k.bits n).toNat))
 |_=>none
def nq(op:BinOp)(s t:List UInt8):Option AV:=
 match op with
 |.add=>if s.length+t.length<9223372036854775808 then some (.str (s++t)) else none
 |.eql=>some (.bool (s == t))
 |.neq=>some (.bool (!(s == t)))
 |.lss=>some (.bool (Op.bytesLess s t))
 |.leq=>some (.bool (Op.bytesLess s t||s == t))
 |.gtr=>some (.bool (!(Op.bytesLess s t||s == t)))
 |.geq=>some (.bool (!Op.bytesLess s t))
 |_=>none
def vL(P:Program)(t:TypeId)(x y:AV):Option Bool:=
 match P.underlying t,x,y with
 |some .bool,.bool a,.bool b=>some (a == b)
 |some (.int _),.int k a,.int k' b=>if k=k' then some (a == b) else none
 |some .string,.str a,.str b=>some (a == b)
 |_,_,_=>none
def qy(P:Program)(xs ys:List AV):List Field→Option Bool
 |[]=>some true
 |f::fs=>
  if f.name = "_" then none else
  match xs[f.offset]?,ys[f.offset]? with
  |some x,some y=>match vL P f.type x y with
   |some true=>qy P xs ys fs
   |some false=>some false
   |none=>none
  |_,_=>none
def UB(x:AV):Option Bool:=
 match x with
 |.slice .nil _ []=>some true
 |.slice .some _ _=>some false
 |.slice _ _ (_::_)=>some false
 |.Za .. => some false
 |_=>none
def FV(x y:AV):Option Bool:=
 match y with
 |.slice .nil _ []=>UB x
 |_=>match x with
  |.slice .nil _ []=>UB y
  |_=>none
def aeq(P:Program)(t:TypeId)(x y:AV):Option Bool:=
 match P.underlying t,x,y with
 |some .bool,.bool a,.bool b=>some (a == b)
 |some (.pointer _),.ZB,.ZB=>some true
 |some (.pointer _),.ZB,.ptr _ _=>some false
 |some (.pointer _),.ptr _ _,.ZB=>some false
 |some (.pointer _),.ZB,.Zu .. => some false
 |some (.pointer _),.Zu ..,.ZB=>some false
 |some (.pointer e),.ptr i o,.ptr j p=>match iX P e with
  |some (_+1)=>if i=j then some (o == p) else none
  |_=>none
 |some (.func ..),.Zw,.Zw=>some true
 |some (.func ..),.Zw,.fn .. => some false
 |some (.func ..),.fn ..,.Zw=>some false
 |some (.struct fields),.agg xs,.agg ys=>if P.eqGuardType P.depth t=false∧P.stoodInHeld t=false then qy P xs ys fields.toList else none
 |some (.slice _),x,y=>FV x y
 |_,_,_=>none
def Bc(P:Program)(op:BinOp)(t:TypeId)(x y:AV):Option AV:=
 match x,y with
 |.int k m,.int k' n=>if op = .shl∨op = .shr then none else if k=k' then mj op k m n else none
 |.str s,.str u=>nq op s u
 |x,y=>match op with
  |.eql=>(aeq P t x y).map .bool
  |.neq=>(aeq P t x y).map fun b=>.bool (!b)
  |_=>none
def J2(op:UnOp)(x:AV):Option AV:=
 match op,x with
 |.not,.bool b=>some (.bool (!b))
 |.neg,.int k n=>some (.int k (k.wrap (0-n)))
 |_,_=>none
def nr(ops:Array Oper)(a:Env)(o:Oper):Option Bool:=
 match o.guard with
 |none=>some true
 |some (j,want)=>match (ops[j]?).bind (·.dst) with
  |none=>none
  |some d=>match fh a d with
   |.bool b=>some (b == want)
   |.tuple _=>some false
   |_=>none
section
variable{P:Program}{K:aC}{H:List Y4}{w:World}
theorem pF{vs:Array Value}{i:Nat}{v:Value}(h:vs[i]?=some v):vs.getD i undef=v:=by
 simp [amd,h]
theorem Vs.get{as:List AV}{vs:Array Value}(h:Vs K as vs){i:Nat}{av:AV}(hi:as[i]?=some av):∃ v,vs[i]?=some v∧V K av v:=by
 have hlt:i<vs.size:=by rw [← h.size];exact (al3.1 hi).1
 have:=h.at_ i av hi;rw [pF (amz hlt)] at this;exact ⟨_,amz hlt,this⟩
theorem V.aa1{cs:List AV}{v:Value}(h:V K (.agg cs) v):∃ vs,v = .agg vs∧Vs K cs vs:=by
 cases h with | agg _ vs h1 hv=>exact ⟨vs,rfl,h1,hv⟩
theorem V.acE{cs:List AV}{v:Value}(h:V K (.tuple cs) v):∃ vs,v = .tuple vs∧Vs K cs vs:=by
 cases h with | tuple _ vs h1 hv=>exact ⟨vs,rfl,h1,hv⟩
theorem V.cells{x:AV}{v:Value}(h:V K x v){cs:List AV}(hc:dM x=some cs):Vs K cs v.cells:=by
 cases h with
 |ZW=>cases hc
 |tuple=>cases hc
 |agg cs' vs h1 hv=>cases hc;exact ⟨h1,hv⟩
 |_=>
  cases hc;refine ⟨rfl,fun i av hi => ?_⟩;cases i with
  |succ i=>simp at hi
  |zero=>
   simp at hi;subst hi;simp only [Value.cells]
   first | constructor | skip
   all_goals assumption
theorem Y5{t:TypeId}{d:TypeDesc}(h:P.underlying t=some d):(underlying t).run P w = .ok d w:=by simp [underlying,h]
theorem rk{t:TypeId}{i:TypeInfo}(h:P.info? t=some i):(typeInfo t).run P w = .ok i w:=by simp [typeInfo,h]
theorem dU{t:TypeId}{n:Nat}(h:iX P t=some n):(sizeOf t).run P w = .ok n w:=by
 simp only [iX,amn] at h;obtain ⟨i,h1,rfl⟩:=h;simp [sizeOf,rk h1]
theorem sf{t:TypeId}{b:Bool}(h:Mg P t=some b):(isAgg t).run P w = .ok b w:=by
 unfold Mg at h;split at h
 ·rename_i h1;cases h;simp [isAgg,Y5 h1]
 ·rename_i h1;cases h;simp [isAgg,Y5 h1]
 ·rename_i d h2 h3 h1
  cases h;simp only [isAgg,Sem.run_bind,Y5 h1,Result.andThen_ok];rfl
 ·cases h
theorem iY(b o n:Nat):(⟨b,o,none⟩:Addr).add n=⟨b,o+n,none⟩:=by
 unfold Addr.add;split<;>simp_all
theorem Ht{cs:List AV}{b o off:Nat}{t:TypeId}{v:AV}(hc:∀ (j:Nat) (av:AV),cs[j]?=some av→∃ cv,w.cell? ⟨b,o+j,none⟩=some cv∧V K av cv)
  (h:A9 P t cs off=some v):∃ cv,(loadVar t ⟨b,o+off,none⟩).run P w = .ok cv w∧V K v cv:=by
 unfold A9 at h;split at h
 ·rename_i n h1 h2
  split at h
  ·rename_i hle
   cases h
   have hex:∀ j,j<n→∃ cv,w.cell? ⟨b,o+off+j,none⟩=some cv∧V K (cs.getD (off+j) .ZW) cv:=fun j hj=>by
    have hlt:off+j<cs.length:=by omega
    obtain ⟨cv,h3,h4⟩:=hc (off+j) _ (al4 hlt);refine ⟨cv,by rw [aom];exact h3, ?_⟩;simpa [List.getD,al4 hlt] using h4
   let f:Nat→Value:=fun j=>if hj:j<n then Classical.choose (hex j hj) else undef
   have hf:∀ j,j<n→w.cell? ⟨b,o+off+j,none⟩=some (f j)∧V K (cs.getD (off+j) .ZW) (f j):=fun j hj=>by
    have:=anh (hex j hj);simp only [f,dif_pos hj];exact this
   have hl:=run_loadCells (P:=P) w ⟨b,o+off,none⟩ n f (fun j hj=>by rw [iY];exact (hf j hj).1);refine ⟨.agg ((List.range n).map f).toArray,by simp [loadVar,sf h1,dU h2,hl],.agg _ _ (by simp;omega) fun i av hi => ?_⟩;rw [amE] at hi;split at hi
   ·rename_i hin
    rw [amM] at hi;have:=(hf i hin).2;simp only [List.getD,hi,aoU] at this;simpa [amd,hin] using this
   ·cases hi
  ·cases h
 ·rename_i n h1 h2
  obtain ⟨cv,h3,h4⟩:=hc off v h;exact ⟨cv,by simp [loadVar,sf h1,h3],h4⟩
 ·cases h
theorem Dx(hi:Inv K H w){t:TypeId}{x v:AV}{cx:Value}(hx:V K x cx)(h:xl P H t x=some v) :
  ∃ cv,(Instr.loadAt t cx).run P w = .ok cv w∧V K v cv:=by
 unfold xl at h;split at h
 ·rename_i id off
  split at h
  ·rename_i cs T0 hcs
   obtain ⟨b,vs,T,h1,h2,h3,h4,h5,h6,h7,h8s⟩:=hi.obj id _ hcs;cases hx with
   |ptr _ _ b' hb=>
    rw [h1] at hb;cases hb
    obtain ⟨cv,h8,h9⟩:=Ht (P:=P) (w:=w) (K:=K) (b:=b) (o:=0) (cs:=cs) (fun j av hj=>by
     have hlt:j<vs.size:=by have:=(al3.1 hj).1;omega
     refine ⟨vs[j], ?_, ?_⟩
     ·rw [de h3];simp [hlt]
     ·have:=h5 j av hj;rwa [pF (amz hlt)] at this) h
    exact ⟨cv,by simpa [Instr.loadAt,Instr.sureAddr] using h8,h9⟩
  ·cases h
 ·rename_i esz rows i off
  split at h
  ·rename_i r hr
   cases hx with
   |Zu _ _ _ _ b o vs hl him hv=>
    obtain ⟨cv,h8,h9⟩:=Ht (P:=P) (w:=w) (K:=K) (b:=b) (o:=o+i*esz) (cs:=r) (fun j av hj=>⟨vs i j,hi.ZO _ _ _ (him i j r av hr hj),hv i j r av hr hj⟩) h;exact ⟨cv,by simpa [Instr.loadAt,Instr.sureAddr] using h8,h9⟩
  ·cases h
 ·cases h
end
section
variable{P:Program}{K:aC}{H:List Y4}{w:World}
theorem V.one{x:AV}{v:Value}(h:V K x v)(hc:x.cell=true):v.oneCell'=true:=by
 cases h<;>first | rfl | (cases hc)
theorem Hu{α:Type}{l:List α}{i:Nat}{x:α}(h:l[i]?=some x):l.set i x=l:=by
 apply an5;intro j
 by_cases e:j=i
 ·subst e
  have hlt:=(al3.1 h).1;simp [hlt,h];exact (al3.1 h).2.symm
 ·rw [ami (fun h=>e h.symm)]
theorem yk{b id off:Nat}(hb:K.loc[id]?=some b):∀ (cs:List AV) (l:List Value) (i:Nat) (H:List Y4) (w:World) (old:List AV) (T0:TypeId),Inv K H w→H[id]?=some (.cells old T0) →
  off+i+cs.length≤old.length→cs.length=l.length→(∀ (j:Nat) (av:AV),cs[j]?=some av→∃ v,l[j]?=some v∧V K av v)→cs.all AV.cell=true →
  ∃ w',(storeCells ⟨b,off,none⟩ l i).run P w = .ok () w'∧Inv K (H.set id (.cells (bq old (off+i) cs) T0)) w'
 |[],[],i,H,w,old,T0,hi,ho,_,_,_,_=>⟨w,rfl,by rw [bq,Hu ho];exact hi⟩
 |[],_::_,_,_,_,_,_,_,_,_,h,_,_=>by cases h
 |_::_,[],_,_,_,_,_,_,_,_,h,_,_=>by cases h
 |v::cs,x::l,i,H,w,old,T0,hi,ho,hle,hlen,hv,hc=>by
  simp only [anq,amb] at hc;obtain ⟨x',hx',hvx⟩:=hv 0 v rfl;simp at hx';subst hx';obtain ⟨b',vs,T,h1,h2,h3,h4,h5,h6,h7,h8s⟩:=hi.obj id _ ho;rw [hb] at h1;cases h1;have hlt:off+i<vs.size:=by simp at hle;omega
  have hlt':off+i<old.length:=by simp at hle;omega
  have hcell:w.cell? ⟨b,off+i,none⟩=some vs[off+i]:=by rw [de h3];simp [hlt]
  have hfro:w.frozen? ⟨b,off+i,none⟩=false:=by simp [World.frozen?,h3]
  have hst:(store ((⟨b,off,none⟩:Addr).add i) x).run P w = .ok () (w.setCell ⟨b,off+i,none⟩ x):=by
   rw [iY,run_store P w _ x _ (hvx.one hc.1)];simp [hcell,hfro]
  have hi':=hi.store ho hlt' hb hvx;have hid:=(al3.1 ho).1
  obtain ⟨w',hw1,hw2⟩:=yk (off:=off) hb cs l (i+1) (H.set id (.cells (old.set (off+i) v) T0)) _ (old.set (off+i) v) T0 hi' (by simp [hid]) (by simp at hle ⊢;omega) (by simpa using hlen)
   (fun j av hj=>by simpa using hv (j+1) av (by simpa using hj)) hc.2
  refine ⟨w', ?_, ?_⟩
  ·simp only [storeCells,Sem.run_bind,hst,Result.andThen_ok,hw1]
  ·rw [apo] at hw2
   rw [bq];exact hw2
theorem Jr(hi:Inv K H w){t:TypeId}{x v:AV}{cx cv:Value}{H':List Y4}(hx:V K x cx)(hv:V K v cv)(h:Ba P H t x v=some H') :
  ∃ w',(Instr.storeAt t cx cv).run P w = .ok () w'∧Inv K H' w':=by
 unfold Ba at h;split at h
 ·rename_i id off cs n hc hn
  split at h
  ·rename_i old T0 ho
   split at h
   ·rename_i hh
    obtain ⟨h1,h2,h3⟩:=hh;cases h;cases hx with
    |ptr _ _ b hb=>
     have hvs:=hv.cells hc
     obtain ⟨w',hw1,hw2⟩:=yk (P:=P) (off:=off) hb cs cv.cells.toList 0 H w old T0 hi ho (by omega) (by rw [hvs.size];simp) (fun j av hj=>by
      obtain ⟨v,hv1,hv2⟩:=hvs.get hj;exact ⟨v,by simpa using hv1,hv2⟩) h3
     refine ⟨w', ?_,hw2⟩;have hsz:cv.cells.size=n:=by rw [← hvs.size];exact h1
     simp [Instr.storeAt,Instr.sureAddr,storeVar,dU hn,hsz,hw1]
   ·cases h
  ·cases h
 ·cases h
theorem xm{t:TypeId}{cs:List AV}(h:AE P t=some cs)(K:aC):∃ z,(zeroValue t).run P w = .ok z w∧Vs K cs z.cells∧V K (lH z) z:=by
 unfold AE at h;split at h
 ·rename_i i hi
  split at h
  ·rename_i z hz
   exact ⟨z,by simp [zeroValue,rk hi,hz],(ri K z).cells h,ri K z⟩
  ·cases h
 ·cases h
theorem EL(hi:Inv K H w){cs:List AV}{v:Value}(T:TypeId)(hv:Vs K cs v.cells) :
  ∃ K' a w',K.le K'∧(newVar T v).run P w = .ok a w'∧V K' (.ptr H.length 0) (.pointer (some a))∧Inv K' (H++[.cells cs T]) w':=by
 refine ⟨K.ZJ w.heap.size (some (.rows v.cells.size)),⟨w.heap.size,0,none⟩,w.alloc (.cells v.cells T),K.aal _ _ hi.ZZ,rfl, ?_,hi.ac1 cs v.cells T hv⟩;exact .ptr _ _ _ (by simp [aC.ZJ,hi.len])
theorem CC:∀ (l cs:List AV) (o:Nat),(bq cs o l).length=cs.length
 |[],_,_=>rfl
 |v::r,cs,o=>by rw [bq,CC r];simp
theorem Mh:∀ (l:List Value) (as cs:List AV) (k off:Nat) (vs:Array Value),Vs K cs vs→as.length=l.length→(∀ (j:Nat) (av:AV),as[j]?=some av→∃ v,l[j]?=some v∧V K av v) →
  Vs K (bq cs (off+k) as) ((l.zipIdx k).foldl (fun (c:Array Value) (x:Value×Nat)=>c.setIfInBounds (off+x.2) x.1) vs)
 |[],as,cs,k,off,vs,h,hl,_=>by
  cases as with
  |nil=>exact h
  |cons=>cases hl
 |x::l,as,cs,k,off,vs,h,hl,hv=>by
  cases as with
  |nil=>cases hl
  |cons a as=>
   obtain ⟨x',hx',hax⟩:=hv 0 a rfl;simp at hx';subst hx';rw [bq,List.zipIdx_cons,anx]
   have h':Vs K (cs.set (off+k) a) (vs.setIfInBounds (off+k) x):=by
    refine ⟨by simp [h.size],fun i av hi => ?_⟩;rcases ka hi with ⟨rfl,rfl⟩ | ⟨e,hi⟩
    ·have:off+k<vs.size:=by have:=(al3.1 hi).1;rw [← h.size];simpa using this
     simpa [amd,this] using hax
    ·have:=h.at_ i av hi
     simpa [amd,anf (fun h=>e h.symm)] using this
   exact Mh l as _ (k+1) off _ h' (by simpa using hl) (fun j av hj=>by simpa using hv (j+1) av (by simpa using hj))
end
def lC(place:Nat→Option (Nat×Nat))(cells:List AV):List (Nat×AV)→Option (List AV)
 |[]=>some cells
 |(i,v)::rest=>
  match place i,dM v with
  |some (off,size),some cs=>if cs.length=size∧off+cs.length≤cells.length then lC place (bq cells off cs) rest else none
  |_,_=>none
section
variable{P:Program}{K:aC}{H:List Y4}{w:World}
theorem zr(place:Nat→Option (Nat×Nat)):∀ (parts:List (Nat×AV)) (cparts:List (Nat×Value)) (cs cs':List AV) (vs:Array Value),Vs K cs vs →
  parts.length=cparts.length→(∀ (j i:Nat) (av:AV),parts[j]?=some (i,av)→∃ v,cparts[j]?=some (i,v)∧V K av v)→lC place cs parts=some cs' →
  ∃ vs',Instr.fill place vs cparts=some vs'∧Vs K cs' vs'
 |[],cparts,cs,cs',vs,h,hl,_,hf=>by
  cases cparts with
  |nil=>cases hf;exact ⟨vs,rfl,h⟩
  |cons=>cases hl
 |(i,a)::parts,cparts,cs,cs',vs,h,hl,hv,hf=>by
  cases cparts with
  |nil=>cases hl
  |cons c cparts=>
   obtain ⟨v,hc,hav⟩:=hv 0 i a rfl;simp at hc;subst hc;rw [lC] at hf;split at hf
   ·rename_i off size as hp ha
    split at hf
    ·rename_i hh
     obtain ⟨h1,h2⟩:=hh;have hvs:=hav.cells ha
     have h':=Mh (K:=K) v.cells.toList as cs 0 off vs h (by rw [hvs.size];simp) (fun j av hj=>by
      obtain ⟨x,hx1,hx2⟩:=hvs.get hj;exact ⟨x,by simpa using hx1,hx2⟩)
     have e:(v.cells.toList.zipIdx 0).foldl (fun (c:Array Value) (x:Value×Nat)=>c.setIfInBounds (off+x.2) x.1) vs=v.cells.zipIdx.foldl (fun cs (c,j)=>cs.setIfInBounds (off+j) c) vs:=by
      rw [← Array.foldl_toList];simp
     rw [e] at h';obtain ⟨vs',hv1,hv2⟩:=zr place parts cparts _ cs' _ h' (by simpa using hl) (fun j i av hj=>by simpa using hv (j+1) i av (by simpa using hj)) hf;refine ⟨vs', ?_,hv2⟩;have hsz:v.cells.size=size:=by rw [← hvs.size];exact h1
     have hsz2:off+v.cells.size≤vs.size:=by rw [← hvs.size,← h.size];exact h2
     simp only [Instr.fill,hp];rw [if_neg (by simp [hsz];rw [← hsz];exact hsz2)];exact hv1
    ·cases hf
   ·cases hf
end
section
variable{P:Program}{K:aC}{H:List Y4}{w:World}
theorem Hv{cs:List AV}{vs:Array Value}(hv:Vs K cs vs){t:TypeId}{off:Nat}{v:AV}(h:A9 P t cs off=some v) :
  ∃ cv,(part t vs off).run P w = .ok cv w∧V K v cv:=by
 unfold A9 at h;split at h
 ·rename_i n h1 h2
  split at h
  ·rename_i hle
   cases h;refine ⟨.agg (vs.extract off (off+n)),by simp [part,sf h1,dU h2],.agg _ _ (by simp;rw [hv.size] at hle ⊢;omega) fun i av hi => ?_⟩;rw [amE] at hi;split at hi
   ·rename_i hin
    rw [amM] at hi;obtain ⟨x,hx,hxv⟩:=hv.get hi;have hlt:off+i<vs.size:=(amh.1 hx).1
    have:(vs.extract off (off+n))[i]?=some x:=by
     rw [Array.getElem?_extract];rw [if_pos (by omega)];exact hx
    rw [pF this];exact hxv
   ·cases hi
  ·cases h
 ·rename_i n h1 h2
  obtain ⟨x,hx,hxv⟩:=hv.get h;exact ⟨x,by simp [part,sf h1,hx],hxv⟩
 ·cases h
theorem Hw{s:TypeId}{f:Nat}{t:TypeId}{o:Nat}(h:EJ P s f=some (t,o)):∃ fields x,P.underlying s=some (.struct fields)∧fields[f]?=some x∧x.type=t∧x.offset=o:=by
 unfold EJ at h;split at h
 ·rename_i fields hu
  split at h
  ·rename_i x hx;cases h;exact ⟨fields,x,hu,hx,rfl,rfl⟩
  ·cases h
 ·cases h
theorem Js{s:TypeId}{x v:AV}{f:Nat}{cx:Value}(hx:V K x cx)(h:Dw P s x f=some v):∃ cv,(Instr.fieldAt s cx f).run P w = .ok cv w∧V K v cv:=by
 unfold Dw at h;split at h
 ·rename_i t o hf
  obtain ⟨fields,fd,hu,hfd,rfl,rfl⟩:=Hw hf;split at h
  ·rename_i n hn
   have hsz:(sizeOf fd.type).run P w = .ok (n+1) w:=dU hn;split at h
   ·rename_i id off
    cases h;cases hx with
    |ptr _ _ b hb=>exact ⟨.pointer (some ⟨b,off+fd.offset,none⟩),by simp [Instr.fieldAt,Y5 hu,hfd,Instr.sureAddr,fieldPlace,hsz,iY],.ptr _ _ _ hb⟩
   ·rename_i esz rows i off
    cases h;cases hx with
    |Zu _ _ _ _ b o vs hl hi hv=>
     refine ⟨.pointer (some ⟨b,o+i*esz+(off+fd.offset),none⟩),by simp [Instr.fieldAt,Y5 hu,hfd,Instr.sureAddr,fieldPlace,hsz,iY,aom],.Zu _ _ _ _ _ _ vs hl hi hv⟩
   ·cases h
  ·cases h
 ·cases h
theorem Mi{s:TypeId}{x v:AV}{f:Nat}{cx:Value}(hx:V K x cx)(h:KW P s x f=some v):∃ cv,(Instr.field s cx f).run P w = .ok cv w∧V K v cv:=by
 unfold KW at h;split at h
 ·rename_i t o cs hf
  obtain ⟨fields,fd,hu,hfd,rfl,rfl⟩:=Hw hf;obtain ⟨vs,rfl,hvs⟩:=hx.aa1;obtain ⟨cv,h1,h2⟩:=Hv (P:=P) (w:=w) hvs h;exact ⟨cv,by simp [Instr.field,Y5 hu,hfd,asAgg,h1],h2⟩
 ·cases h
theorem CD{t:TypeId}{x ix v:AV}{cx ci:Value}(hx:V K x cx)(hix:V K ix ci)(h:Bb P t x ix=some v) :
  ∃ cv,(Instr.indexAt t cx ci).run P w = .ok cv w∧V K v cv:=by
 unfold Bb at h;split at h
 ·rename_i e tag esz rows k n hu
  split at h
  ·rename_i sz hs
   split at h
   ·rename_i hh
    obtain ⟨rfl,h1,h2⟩:=hh;cases h;cases hix;have hsz:(sizeOf e).run P w = .ok sz w:=dU hs;cases hx with
    |Zo=>simp at h2;omega
    |Zk=>simp at h2;omega
    |slice _ _ _ b o cap vs hl hi hv hc ht=>
     refine ⟨.pointer (some ⟨b,o+n.toNat*sz+0,none⟩),by simp [Instr.indexAt,asIntOf,Y5 hu,h1,h2,hsz,iY],.Zu _ _ _ _ _ _ vs hl hi hv⟩
   ·cases h
  ·cases h
 ·rename_i e id off len esz room k n hu
  split at h
  ·rename_i sz hs
   split at h
   ·rename_i hh
    obtain ⟨rfl,h1,h2⟩:=hh;cases h;cases hix;have hsz:(sizeOf e).run P w = .ok sz w:=dU hs;cases hx with
    |Za _ _ _ _ _ b cap hb hc=>
     refine ⟨.pointer (some ⟨b,off+n.toNat*sz,none⟩),by simp [Instr.indexAt,asIntOf,Y5 hu,h1,h2,hsz,iY],.ptr _ _ _ hb⟩
   ·cases h
  ·cases h
 ·rename_i len e id off k n hu
  split at h
  ·rename_i sz hs
   split at h
   ·rename_i hh
    obtain ⟨h1,h2⟩:=hh;cases h;cases hix;have hsz:(sizeOf e).run P w = .ok sz w:=dU hs;cases hx with
    |ptr _ _ b hb=>
     refine ⟨.pointer (some ⟨b,off+n.toNat*sz,none⟩),by simp [Instr.indexAt,asIntOf,Y5 hu,Instr.sureAddr,h1,h2,hsz,iY],.ptr _ _ _ hb⟩
   ·cases h
  ·cases h
 ·rename_i len e esz rows i off k n hu
  split at h
  ·rename_i sz hs
   split at h
   ·rename_i hh
    obtain ⟨h1,h2⟩:=hh;cases h;cases hix;have hsz:(sizeOf e).run P w = .ok sz w:=dU hs;cases hx with
    |Zu _ _ _ _ b o vs hl hi hv=>
     refine ⟨.pointer (some ⟨b,o+i*esz+(off+n.toNat*sz),none⟩),by simp [Instr.indexAt,asIntOf,Y5 hu,Instr.sureAddr,h1,h2,hsz,iY,aom],.Zu _ _ _ _ _ _ vs hl hi hv⟩
   ·cases h
  ·cases h
 ·cases h
theorem FW{t:TypeId}{x ix v:AV}{cx ci:Value}(hx:V K x cx)(hix:V K ix ci)(h:Hs P t x ix=some v) :
  ∃ cv,(Instr.index t cx ci).run P w = .ok cv w∧V K v cv:=by
 unfold Hs at h;split at h
 ·rename_i s k n hu
  split at h
  ·rename_i h0
   split at h
   ·rename_i b hb
    cases h;cases hix;cases hx
    have hb':(ByteArray.mk s.toArray)[n.toNat]?=some b:=by
     have hlt:=(al3.1 hb).1;have hlt2:n.toNat<(ByteArray.mk s.toArray).size:=by simpa [ByteArray.size] using hlt
     rw [getElem?_pos (ByteArray.mk s.toArray) n.toNat hlt2];have:=(al3.1 hb).2;simpa [ByteArray.getElem_eq_getElem_data] using this
    exact ⟨.int .u8 b.toNat,by simp [Instr.index,asIntOf,Y5 hu,h0,hb'],.int _ _⟩
   ·cases h
  ·cases h
 ·rename_i len e cs k n hu
  split at h
  ·rename_i sz hs
   split at h
   ·rename_i hh
    obtain ⟨h1,h2⟩:=hh;cases hix;obtain ⟨vs,rfl,hvs⟩:=hx.aa1;have hsz:(sizeOf e).run P w = .ok sz w:=dU hs;obtain ⟨cv,h3,h4⟩:=Hv (P:=P) (w:=w) hvs h;exact ⟨cv,by simp [Instr.index,asIntOf,Y5 hu,h1,h2,hsz,h3],h4⟩
   ·cases h
  ·cases h
 ·cases h
theorem KX{op:BinOp}{k:IntKind}{m n:Int}{v:AV}(hs:¬(op = .shl∨op = .shr))(h:mj op k m n=some v)(t:TypeId):∃ cv,(binOp op t (.int k m) (.int k n)).run P w = .ok cv w∧V K v cv:=by
 cases op<;>simp only [mj] at h
 all_goals first
  |(simp at hs;done)
  |(cases h;done)
  |(split at h
    ·cases h
    ·rename_i hn;cases h;exact ⟨_,by simp [binOp,Op.intDiv,hn],.int _ _⟩)
  |(cases h;first | exact ⟨_,by simp [binOp,Op.intArith,Op.intBits,Op.intCmp],.int _ _⟩ | exact ⟨_,by simp [binOp,Op.intArith,Op.intBits,Op.intCmp],.bool _⟩)
theorem KY{op:BinOp}{s u:List UInt8}{v:AV}(h:nq op s u=some v)(t:TypeId):∃ cv,(binOp op t (.string ⟨s.toArray⟩) (.string ⟨u.toArray⟩)).run P w = .ok cv w∧V K v cv:=by
 have hl:∀ l:List UInt8,(ByteArray.mk l.toArray).toList=l:=fun l=>ByteArray.toList_mk l
 have hsz:∀ l:List UInt8,(ByteArray.mk l.toArray).size=l.length:=fun l=>by simp [ByteArray.size]
 cases op<;>simp only [nq] at h
 all_goals first
  |(cases h;done)
  |(cases h;exact ⟨_,by simp [binOp,Op.stringOp,hl],.bool _⟩)
  |skip
 split at h
 ·rename_i hlt
  cases h
  have happ:(ByteArray.mk s.toArray)++(ByteArray.mk u.toArray)=ByteArray.mk (s++u).toArray:=by
   apply aoS;apply apk;rw [Joins.data_append]
  refine ⟨.string ⟨(s++u).toArray⟩, ?_,.str _⟩;simp only [binOp,Op.stringOp,hsz];rw [if_neg (by simp [IntKind.max,IntKind.bits,IntKind.signed];omega),happ];simp
 ·cases h
end
section
variable{P:Program}{K:aC}{H:List Y4}{w:World}
theorem CE{t:TypeId}{x y:AV}{cx cy:Value}{b:Bool}(hx:V K x cx)(hy:V K y cy)(h:vL P t x y=some b)(d:Nat) :
  (Op.equalIn (d+1) t cx cy).run P w = .ok b w∧Mg P t=some false:=by
 unfold vL at h;split at h
 ·rename_i a b' hu
  cases h;cases hx;cases hy;exact ⟨run_equalIn_bool' w d t _ _ hu,by simp [Mg,hu]⟩
 ·rename_i k' k a k2 b' hu
  split at h
  ·rename_i e;subst e
   cases h;cases hx;cases hy;exact ⟨run_equalIn_int w d t _ _ _ _ hu,by simp [Mg,hu]⟩
  ·cases h
 ·rename_i a b' hu
  cases h;cases hx;cases hy;refine ⟨?_,by simp [Mg,hu]⟩;rw [run_equalIn_string w d t _ _ hu];simp [ByteArray.toList_mk]
 ·cases h
theorem uZ{xs ys:List AV}{vs us:Array Value}(hx:Vs K xs vs)(hy:Vs K ys us)(d:Nat):∀ (fs:List Field) (b:Bool),qy P xs ys fs=some b →
  (Op.eqFields (d+1) vs us fs).run P w = .ok b w
 |[],b,h=>by cases h;rfl
 |f::fs,b,h=>by
  rw [qy] at h;split at h
  ·cases h
  ·rename_i hn
   split at h
   ·rename_i x y h1 h2
    obtain ⟨cx,h3,h4⟩:=hx.get h1;obtain ⟨cy,h5,h6⟩:=hy.get h2;cases hc:vL P f.type x y with
    |none=>rw [hc] at h;cases h
    |some r=>
     rw [hc] at h;obtain ⟨h7,h8⟩:=CE (w:=w) h4 h6 hc d;have hp1:(part f.type vs f.offset).run P w = .ok cx w:=by simp [part,sf h8,h3]
     have hp2:(part f.type us f.offset).run P w = .ok cy w:=by simp [part,sf h8,h5]
     cases r with
     |true=>
      simp only [Op.eqFields,hn,ne_eq,not_false_eq_true,if_true,Sem.run_bind,hp1,hp2,h7,Result.andThen_ok,anS,amQ,if_false];exact uZ hx hy d fs b h
     |false=>
      cases h;simp [Op.eqFields,hn,hp1,hp2,h7]
   ·cases h
theorem Ww{t e:TypeId}(hu:P.underlying t=some (.pointer e))(d:Nat)(b:Option Addr):(Op.equalIn (d+1) t (.pointer none) (.pointer b)).run P w = .ok b.isNone w:=by
 simp only [Op.equalIn,Sem.run_bind,Y5 hu,Result.andThen_ok];rfl
theorem X7{t e:TypeId}(hu:P.underlying t=some (.pointer e))(d:Nat)(b:Addr):(Op.equalIn (d+1) t (.pointer (some b)) (.pointer none)).run P w = .ok false w:=by
 simp only [Op.equalIn,Sem.run_bind,Y5 hu,Result.andThen_ok];rfl
theorem YO{t e:TypeId}(hu:P.underlying t=some (.pointer e)){n:Nat}(hn:iX P e=some (n+1))(d b o p:Nat) :
  (Op.equalIn (d+1) t (.pointer (some ⟨b,o,none⟩)) (.pointer (some ⟨b,p,none⟩))).run P w = .ok (o == p) w:=by
 have hsz:(sizeOf e).run P w = .ok (n+1) w:=dU hn;simp only [Op.equalIn,Sem.run_bind,Y5 hu,Result.andThen_ok,hsz,ne_eq,Nat.add_eq_zero_iff,Nat.one_ne_zero,and_false,not_false_eq_true,if_true,sameAddr,amV];show Result.ok ((⟨b,o,none⟩:Addr) == ⟨b,p,none⟩) w=_;congr 1
 by_cases h:o=p
 ·subst h;simp
 ·have:(⟨b,o,none⟩:Addr)≠⟨b,p,none⟩:=fun e=>by cases e;exact h rfl
  rw [amg.2 this,amg.2 h]
theorem YP{t:TypeId}{a b:Array TypeId}{c:Bool}(hu:P.underlying t=some (.func a b c))(d:Nat):(Op.equalIn (d+1) t .nilFunc .nilFunc).run P w = .ok true w:=by
 simp only [Op.equalIn,Sem.run_bind,Y5 hu,Result.andThen_ok];rfl
theorem YQ{t:TypeId}{a b:Array TypeId}{c:Bool}(hu:P.underlying t=some (.func a b c))(d:Nat)(f:Fn)(x y:Array Value):(Op.equalIn (d+1) t .nilFunc (.func f x y)).run P w = .ok false w:=by
 simp only [Op.equalIn,Sem.run_bind,Y5 hu,Result.andThen_ok];rfl
theorem YR{t:TypeId}{a b:Array TypeId}{c:Bool}(hu:P.underlying t=some (.func a b c))(d:Nat)(f:Fn)(x y:Array Value):(Op.equalIn (d+1) t (.func f x y) .nilFunc).run P w = .ok false w:=by
 simp only [Op.equalIn,Sem.run_bind,Y5 hu,Result.andThen_ok];rfl
theorem Hx{x:AV}{cx:Value}{b:Bool}(hx:V K x cx)(h:UB x=some b):∃ a n c,cx = .slice a n c∧b=a.isNone:=by
 unfold UB at h;split at h
 ·cases h
  cases hx with
  |Zo _ _ a ha=>exact ⟨a,0,0,rfl,by rw [ha.2.1 rfl];rfl⟩
  |Zk _ _ _ _ e=>simp at e
  |slice _ _ _ b o cap vs hl him hv hcap ht=>exact (ht:False).elim
 ·cases h
  cases hx with
  |Zo _ _ a ha=>exact absurd rfl ha.2.2
  |Zk _ _ a cap e=>
   rcases e with e | ⟨_,e⟩
   ·cases e
   ·cases a with
    |none=>exact absurd rfl e
    |some a=>exact ⟨_,_,_,rfl,rfl⟩
  |slice _ _ _ b o cap vs hl him hv hcap ht=>exact ⟨_,_,_,rfl,rfl⟩
 ·cases h
  cases hx with
  |slice _ _ _ b o cap vs hl him hv hcap ht=>exact ⟨_,_,_,rfl,rfl⟩
 ·cases h
  cases hx;exact ⟨_,_,_,rfl,rfl⟩
 ·cases h
theorem YS{t e:TypeId}(hu:P.underlying t=some (.slice e))(d:Nat)(a:Option Addr)(n c:Nat):(Op.equalIn (d+1) t (.slice a n c) (.slice none 0 0)).run P w = .ok a.isNone w:=by
 cases a<;>simp only [Op.equalIn,Sem.run_bind,Y5 hu,Result.andThen_ok]<;>rfl
theorem YT{t e:TypeId}(hu:P.underlying t=some (.slice e))(d:Nat)(a:Option Addr)(n c:Nat):(Op.equalIn (d+1) t (.slice none 0 0) (.slice a n c)).run P w = .ok a.isNone w:=by
 cases a<;>simp only [Op.equalIn,Sem.run_bind,Y5 hu,Result.andThen_ok]<;>rfl
theorem RI{esz:Nat}{cx:Value}(hx:V K (.slice .nil esz []) cx):cx = .slice none 0 0:=by
 cases hx with
 |Zk _ _ _ _ e=>simp at e
 |Zo _ _ p hp=>rw [hp.2.1 rfl]
 |slice _ _ _ b o cap vs hl him hv hcap ht=>exact (ht:False).elim
theorem Qn{x y:AV}{b:Bool}(h:FV x y=some b):(∀ k m k' n,¬ (x = .int k m∧y = .int k' n))∧∀ s u,¬ (x = .str s∧y = .str u):=by
 refine ⟨?_, ?_⟩
 ·rintro k m k' n ⟨rfl,rfl⟩;simp [FV] at h
 ·rintro s u ⟨rfl,rfl⟩;simp [FV] at h
theorem Mj{x y:AV}{cx cy:Value}{b:Bool}{t e:TypeId}(hx:V K x cx)(hy:V K y cy)(hu:P.underlying t=some (.slice e))(h:FV x y=some b) :
  (∃ a n c a' n' c',cx = .slice a n c∧cy = .slice a' n' c')∧(Op.equal t cx cy).run P w = .ok b w:=by
 unfold FV at h;split at h
 ·obtain ⟨p,n,c,rfl,rfl⟩:=Hx hx h
  obtain rfl:=RI hy;exact ⟨⟨_,_,_,_,_,_,rfl,rfl⟩,YS hu 9999 _ _ _⟩
 ·split at h
  ·obtain ⟨p,n,c,rfl,rfl⟩:=Hx hy h
   obtain rfl:=RI hx;exact ⟨⟨_,_,_,_,_,_,rfl,rfl⟩,YT hu 9999 _ _ _⟩
  ·cases h
theorem KZ{op:BinOp}{t:TypeId}{x y v:AV}{cx cy:Value}(hx:V K x cx)(hy:V K y cy)(h:Bc P op t x y=some v)(ox oy:Operand) :
  ∃ cv,(do eqGuard op t ox oy cx cy;binOp op t cx cy:Sem Value).run P w = .ok cv w∧V K v cv:=by
 unfold Bc at h;split at h
 ·rename_i k m k' n
  cases hx;cases hy;split at h
  ·cases h
  ·rename_i hs
   split at h
   ·rename_i e;subst e
    obtain ⟨cv,h1,h2⟩:=KX (P:=P) (K:=K) (w:=w) hs h t;refine ⟨cv, ?_,h2⟩;have hg:(eqGuard op t ox oy (.int k m) (.int k n)).run P w = .ok () w:=by cases op<;>simp [eqGuard]
    simp only [Sem.run_bind,hg,Result.andThen_ok,h1]
   ·cases h
 ·rename_i s u
  cases hx;cases hy;obtain ⟨cv,h1,h2⟩:=KY (P:=P) (K:=K) (w:=w) h t;refine ⟨cv, ?_,h2⟩;have hg:(eqGuard op t ox oy (.string ⟨s.toArray⟩) (.string ⟨u.toArray⟩)).run P w = .ok () w:=by cases op<;>simp [eqGuard]
  simp only [Sem.run_bind,hg,Result.andThen_ok,h1]
 ·rename_i h3 h4
  have key:∀ b,aeq P t x y=some b→(eqGuard op t ox oy cx cy).run P w = .ok () w∧(Op.equal t cx cy).run P w = .ok b w ∧
    (op = .eql→binOp op t cx cy=do pure (.bool (← Op.equal t cx cy)))∧(op = .neq→binOp op t cx cy=do pure (.bool (!(← Op.equal t cx cy)))):=by
   intro b hb;unfold aeq at hb;split at hb<;>try (cases hb;done)
   ·rename_i a b' hu
    cases hb;cases hx;cases hy;exact ⟨by cases op<;>simp [eqGuard],run_equalIn_bool' w 9999 t _ _ hu,fun e=>by subst e;rfl,fun e=>by subst e;rfl⟩
   ·rename_i e hu
    cases hb;cases hx;cases hy;exact ⟨by cases op<;>simp [eqGuard],Ww hu 9999 _,fun e=>by subst e;rfl,fun e=>by subst e;rfl⟩
   ·rename_i e i o hu
    cases hb;cases hx;cases hy;exact ⟨by cases op<;>simp [eqGuard],Ww hu 9999 _,fun e=>by subst e;rfl,fun e=>by subst e;rfl⟩
   ·rename_i e i o hu
    cases hb;cases hx;cases hy;exact ⟨by cases op<;>simp [eqGuard],X7 hu 9999 _,fun e=>by subst e;rfl,fun e=>by subst e;rfl⟩
   ·rename_i e a1 a2 a3 a4 hu
    cases hb;cases hx;cases hy;exact ⟨by cases op<;>simp [eqGuard],Ww hu 9999 _,fun e=>by subst e;rfl,fun e=>by subst e;rfl⟩
   ·rename_i e a1 a2 a3 a4 hu
    cases hb;cases hx;cases hy;exact ⟨by cases op<;>simp [eqGuard],X7 hu 9999 _,fun e=>by subst e;rfl,fun e=>by subst e;rfl⟩
   ·rename_i e i o j p hu
    split at hb
    ·rename_i n hn
     split at hb
     ·rename_i hij
      subst hij;cases hb;cases hx with
      |ptr _ _ b1 hb1=>cases hy with
       |ptr _ _ b2 hb2=>
        rw [hb1] at hb2;cases hb2;exact ⟨by cases op<;>simp [eqGuard],YO hu hn 9999 _ _ _,fun e=>by subst e;rfl,fun e=>by subst e;rfl⟩
     ·cases hb
    ·cases hb
   ·rename_i a1 a2 a3 hu
    cases hb;cases hx;cases hy;exact ⟨by cases op<;>simp [eqGuard],YP hu 9999,fun e=>by subst e;rfl,fun e=>by subst e;rfl⟩
   ·rename_i a1 a2 a3 f1 f2 f3 hu
    cases hb;cases hx;cases hy;exact ⟨by cases op<;>simp [eqGuard],YQ hu 9999 _ _ _,fun e=>by subst e;rfl,fun e=>by subst e;rfl⟩
   ·rename_i a1 a2 a3 f1 f2 f3 hu
    cases hb;cases hx;cases hy;exact ⟨by cases op<;>simp [eqGuard],YR hu 9999 _ _ _,fun e=>by subst e;rfl,fun e=>by subst e;rfl⟩
   ·rename_i fields xs ys hu
    split at hb
    ·rename_i hg
     obtain ⟨vs,rfl,hvs⟩:=hx.aa1;obtain ⟨us,rfl,hus⟩:=hy.aa1;have hfo:P.fieldsOf t=fields:=by simp [Program.fieldsOf,hu]
     have hu':P.underlying t=some (.struct (P.fieldsOf t)):=by rw [hfo];exact hu
     refine ⟨run_eqGuard_agg w op t ox oy vs us hg.1, ?_,fun e=>by subst e;rfl,fun e=>by subst e;rfl⟩;show (Op.equalIn (9999+1) t (.agg vs) (.agg us)).run P w=_;rw [run_equalIn_agg w 9999 t vs us hu' hg.2,hfo];exact uZ hvs hus 9998 fields.toList b hb
    ·cases hb
   ·rename_i e hu
    obtain ⟨h5,h6⟩:=Mj (w:=w) hx hy hu hb;obtain ⟨a,n,c,a',n',c',rfl,rfl⟩:=h5;exact ⟨by cases op<;>simp [eqGuard],h6,fun e=>by subst e;rfl,fun e=>by subst e;rfl⟩
  split at h
  ·simp only [amn] at h
   obtain ⟨b,hb,rfl⟩:=h;obtain ⟨h5,h6,h7,_⟩:=key b hb;exact ⟨.bool b,by rw [h7 rfl];simp [h5,h6],.bool b⟩
  ·simp only [amn] at h
   obtain ⟨b,hb,rfl⟩:=h;obtain ⟨h5,h6,_,h7⟩:=key b hb;exact ⟨.bool (!b),by rw [h7 rfl];simp [h5,h6],.bool _⟩
  ·cases h
theorem Mk{op:UnOp}{x v:AV}{cx:Value}(hx:V K x cx)(h:J2 op x=some v):∃ cv,(Op.unary op cx).run P w = .ok cv w∧V K v cv:=by
 unfold J2 at h;split at h
 ·cases h;cases hx;exact ⟨_,rfl,.bool _⟩
 ·cases h;cases hx;exact ⟨_,rfl,.int _ _⟩
 ·cases h
end
structure rl (K:aC) (esz:Nat) (rows:List (List AV)) (l:List Value):Prop where
 hl:∀ r,r∈rows→r.length=esz
 len:l.length=rows.length*esz
 get:∀ (i j:Nat) (r:List AV) (av:AV),rows[i]?=some r→r[j]?=some av→∃ v,l[i*esz+j]?=some v∧V K av v
section
variable{P:Program}{K:aC}{H:List Y4}{w:World}
theorem rl.mono{K':aC}(hk:K.le K'){esz:Nat}{rows:List (List AV)}{l:List Value}(h:rl K esz rows l):rl K' esz rows l:=
 ⟨h.hl,h.len,fun i j r av h1 h2=>let ⟨v,h3,h4⟩:=h.get i j r av h1 h2;⟨v,h3,h4.mono hk⟩⟩
theorem zt{α:Type}{l:List α}{i:Nat}{x:α}(h:l[i]?=some x):x∈l:=aml h
theorem GZ{esz:Nat}{rows:List (List AV)}{b o:Nat}{vs:Nat→Nat→Value}(hl:∀ r,r∈rows→r.length=esz)
  (hi:∀ (i j:Nat) (r:List AV) (av:AV),rows[i]?=some r→r[j]?=some av→K.ZO b (o+i*esz+j)=some (vs i j))
  (hv:∀ (i j:Nat) (r:List AV) (av:AV),rows[i]?=some r→r[j]?=some av→V K av (vs i j)) :
  ∃ l,rl K esz rows l∧∀ (k:Nat) (v:Value),l[k]?=some v→K.ZO b (o+k)=some v:=by
 refine ⟨(List.range (rows.length*esz)).map fun k=>vs (k / esz) (k % esz),⟨hl,by simp,fun i j r av h1 h2 => ?_⟩,fun k v hk => ?_⟩
 ·have hr:=hl r (zt h1)
  have hj:j<esz:=by rw [← hr];exact (al3.1 h2).1
  have hil:i<rows.length:=(al3.1 h1).1
  have hlt:i*esz+j<rows.length*esz:=by
   have:(i+1)*esz≤rows.length*esz:=amR _ hil
   rw [amT] at this;omega
  refine ⟨vs i j, ?_,hv i j r av h1 h2⟩
  have e1:(i*esz+j) / esz=i:=by
   rw [aob,Nat.mul_add_div (by omega),Nat.div_eq_of_lt hj];omega
  have e2:(i*esz+j) % esz=j:=by
   rw [aob,aoW];exact aoy hj
  simp [amK,aoB hlt,e1,e2]
 ·rw [amK,amn] at hk
  obtain ⟨k',hk1,rfl⟩:=hk
  obtain ⟨hlt,rfl⟩:k<rows.length*esz∧k=k':=by
   have:=(al3.1 hk1)
   obtain ⟨h1,h2⟩:=this;simp at h1 h2;exact ⟨h1,h2⟩
  have hesz:0<esz:=by
   rcases apc esz with e | e
   ·rw [e] at hlt;simp at hlt
   ·exact e
  have h1:k / esz<rows.length:=by rw [aoX hesz];exact hlt
  have h2:k % esz<esz:=Nat.mod_lt _ hesz;have h3:rows[k / esz]?=some rows[k / esz]:=al4 h1;have h4:k % esz<rows[k / esz].length:=by rw [hl _ (amc h1)];exact h2
  have:=hi (k / esz) (k % esz) _ _ h3 (al4 h4);rw [show o+k / esz*esz+k % esz=o+k by have:=Nat.div_add_mod k esz;rw [aob] at this;omega] at this;exact this
theorem rl.append{esz:Nat}{rows rows':List (List AV)}{l l':List Value}(h:rl K esz rows l)(h':rl K esz rows' l'):rl K esz (rows++rows') (l++l'):=by
 refine ⟨fun r hr => ?_,by rw [al8,h.len,h'.len,al8,amT],fun i j r av h1 h2 => ?_⟩
 ·rcases aoc.1 hr with hr | hr
  ·exact h.hl r hr
  ·exact h'.hl r hr
 ·by_cases hi:i<rows.length
  ·rw [al7 hi] at h1
   obtain ⟨v,h3,h4⟩:=h.get i j r av h1 h2;exact ⟨v,by rw [al7 (al3.1 h3).1];exact h3,h4⟩
  ·rw [amm (by omega)] at h1
   obtain ⟨v,h3,h4⟩:=h'.get _ j r av h1 h2;refine ⟨v, ?_,h4⟩
   have e:i*esz+j=l.length+((i-rows.length)*esz+j):=by
    rw [h.len,← aom,← amT];congr 2;omega
   rw [e,amm (by omega)];simpa using h3
theorem rl.slice{esz:Nat}{rows:List (List AV)}{l:List Value}(h:rl K esz rows l){b o cap:Nat}{tag:Tag}(him:∀ (k:Nat) (v:Value),l[k]?=some v→K.ZO b (o+k)=some v)
  (hc:rows.length≤cap) (ht:Cy K tag b o esz rows cap):V K (.slice tag esz rows) (.slice (some ⟨b,o,none⟩) rows.length cap):=by
 refine .slice tag esz rows b o cap (fun i j=>l.getD (i*esz+j) undef) h.hl (fun i j r av h1 h2 => ?_) (fun i j r av h1 h2 => ?_) hc ht
 ·obtain ⟨v,h3,h4⟩:=h.get i j r av h1 h2
  rw [aom,him _ _ h3];simp [List.getD,h3]
 ·obtain ⟨v,h3,h4⟩:=h.get i j r av h1 h2
  simp only [List.getD,h3,aoU];exact h4
theorem rl.ajU{esz:Nat}{rows:List (List AV)}{l:List Value}(h:rl K esz rows l){k:Nat}{v:Value}(hk:l[k]?=some v) :
  ∃ (i j:Nat) (r:List AV) (av:AV),rows[i]?=some r∧r[j]?=some av∧V K av v:=by
 have hlt:k<rows.length*esz:=by rw [← h.len];exact (al3.1 hk).1
 have hesz:0<esz:=by
  rcases apc esz with e | e
  ·rw [e] at hlt;simp at hlt
  ·exact e
 have h1:k / esz<rows.length:=by rw [aoX hesz];exact hlt
 have h2:k % esz<esz:=Nat.mod_lt _ hesz;have h4:k % esz<rows[k / esz].length:=by rw [h.hl _ (amc h1)];exact h2
 obtain ⟨v',h5,h6⟩:=h.get (k / esz) (k % esz) _ _ (al4 h1) (al4 h4);rw [show k / esz*esz+k % esz=k by have:=Nat.div_add_mod k esz;rw [aob] at this;omega] at h5;rw [hk] at h5;cases h5;exact ⟨k / esz,k % esz,_,_,al4 h1,al4 h4,h6⟩
theorem rl.one{esz:Nat}{rows:List (List AV)}{l:List Value}(h:rl K esz rows l)(hc:∀ r,r∈rows→r.all AV.cell=true):∀ u∈l,u.oneCell'=true:=by
 intro u hu;obtain ⟨k,hk⟩:=anI hu;obtain ⟨i,j,r,av,h1,h2,h3⟩:=h.ajU hk;exact h3.one (amI.1 (hc r (zt h1)) av (zt h2))
end
def AV.strip:AV→AV
 |.slice (.own _) esz rows=>.slice .any esz rows
 |v=>v
theorem V.strip{K:aC}{a:AV}{v:Value}(h:V K a v):V K a.strip v:=by
 unfold AV.strip;split
 ·cases h with
  |Zk _ _ _ _ e=>simp at e
  |Zo _ _ a _=>exact .Zk .any _ a 0 (.inl rfl)
  |slice _ _ _ b o cap vs hl hi hv hc ht=>exact .slice .any _ _ b o cap vs hl hi hv hc trivial
 ·exact h
def iT(esz:Nat):Nat→List AV→List (List AV)
 |0,_=>[]
 |n+1,cs=>cs.take esz::iT esz n (cs.drop esz)
theorem oC(esz:Nat):∀ (n:Nat) (cs:List AV),(iT esz n cs).length=n
 |0,_=>rfl
 |n+1,cs=>by rw [iT,amk,oC esz n]
theorem nu(esz:Nat):∀ (n:Nat) (cs:List AV) (i:Nat) (r:List AV),(iT esz n cs)[i]?=some r→i<n∧r=(cs.drop (i*esz)).take esz
 |0,_,_,_,h=>by simp [iT] at h
 |n+1,cs,0,r,h=>by simp [iT] at h;subst h;simp
 |n+1,cs,i+1,r,h=>by
  rw [iT,amX] at h;obtain ⟨h1,h2⟩:=nu esz n _ i r h;refine ⟨by omega, ?_⟩;rw [h2,aot,amT,apu,Nat.add_comm esz]
theorem rl.afD{K:aC}{esz n:Nat}{cs:List AV}{l:List Value}(hle:n*esz≤cs.length)(hl:l.length=n*esz)(hv:∀ (k:Nat) (av:AV),k<n*esz→cs[k]?=some av→∃ v,l[k]?=some v∧V K av v) :
  rl K esz (iT esz n cs) l:=by
 refine ⟨fun r hr => ?_,by rw [oC];exact hl,fun i j r av h1 h2 => ?_⟩
 ·obtain ⟨i,hi⟩:=anI hr
  obtain ⟨h1,rfl⟩:=nu esz n cs i r hi
  have:(i+1)*esz≤n*esz:=amR _ h1
  rw [amT] at this;simp;omega
 ·obtain ⟨h3,rfl⟩:=nu esz n cs i r h1
  rw [amE] at h2;split at h2
  ·rename_i hj
   rw [amM] at h2
   have:(i+1)*esz≤n*esz:=amR _ h3
   rw [amT] at this;exact hv _ av (by omega) h2
  ·cases h2
def NW(P:Program)(H:List Y4)(sz:Nat)(xT:TypeId)(x:AV):Option (List (List AV)):=
 match P.underlying xT,x with
 |some (.slice _),.slice _ esz rows=>if rows=[]∨esz=sz then some rows else none
 |some .string,.str s=>if sz=1 then some (s.map fun b=>[.int .u8 b.toNat]) else none
 |some (.slice _),.Za id off len esz _=>match H[id]? with
  |some (.cells cs _)=>if esz=sz∧off+len*esz≤cs.length then some (iT esz len (cs.drop off)) else none
  |_=>none
 |_,_=>none
def Cd(P:Program)(H:List Y4)(sT xT:TypeId)(s x:AV):Option (AV×List Y4):=
 match P.underlying sT with
 |some (.slice e)=>match P.info? e with
  |some i=>match i.zero,NW P H i.size xT x with
   |some z,some new=>match s with
    |.slice tag esz rows=>
     if (rows=[]∨esz=i.size)∧z.cells.size=i.size∧(rows.length+new.length)*i.bytes≤140737488355328∧rows.length+new.length≤4611686018427387904∧new.all (fun r=>r.length == i.size&&r.all AV.cell)=true then
      match new with
      |[]=>some (s,H)
      |_::_=>match tag with
       |.any=>none
       |.some=>none
       |.full=>some (.slice (.own H.length) i.size (rows++new.map (·.map AV.strip)),H++[.tok ((rows.length+new.length)*i.size) e])
       |.nil=>some (.slice (.own H.length) i.size (rows++new.map (·.map AV.strip)),H++[.tok ((rows.length+new.length)*i.size) e])
       |.own t=>match H[t]? with
        |some (.tok fr T)=>if fr=rows.length*i.size∧esz=i.size∧T=e then some (.slice (.own t) i.size (rows++new.map (·.map AV.strip)),H.set t (.tok (fr+new.length*i.size) T)) else none
        |_=>none
     else none
    |_=>none
   |_,_=>none
  |none=>none
 |_=>none
section
variable{P:Program}{K:aC}{H:List Y4}{w:World}
theorem CS(hi:Inv K H w){sz:Nat}{xT:TypeId}{x:AV}{cx:Value}{new:List (List AV)}(hx:V K x cx)(h:NW P H sz xT x=some new)
  (hc:new.all (fun r=>r.length == sz&&r.all AV.cell)=true):∃ l,rl K sz new l∧Src P sz xT cx new.length l w:=by
 have hlen:∀ r,r∈new→r.length=sz:=fun r hr=>by
  have:=amI.1 hc r hr;simp only [amb,amU] at this;exact this.1
 have hcell:∀ r,r∈new→r.all AV.cell=true:=fun r hr=>by
  have:=amI.1 hc r hr;simp only [amb,amU] at this;exact this.2
 unfold NW at h;split at h
 ·rename_i e' tag esz rows hu
  split at h
  ·rename_i hz
   cases h;cases hx with
   |Zo _ _ a _=>
    refine ⟨[],⟨by simp,by simp,fun i j r av h1=>by simp at h1⟩, ?_⟩;cases a with
    |none=>exact .ofNil w hu 0
    |some a=>exact .ofSlice w hu a 0 0 [] (by simp) (by simp) (by simp)
   |Zk _ _ a cap _=>
    refine ⟨[],⟨by simp,by simp,fun i j r av h1=>by simp at h1⟩, ?_⟩;cases a with
    |none=>exact .ofNil w hu cap
    |some a=>exact .ofSlice w hu a 0 cap [] (by simp) (by simp) (by simp)
   |slice _ _ _ b o cap vs hl him hv hcap ht=>
    rcases hz with rfl | rfl
    ·refine ⟨[],⟨by simp,by simp,fun i j r av h1=>by simp at h1⟩,.ofSlice w hu _ 0 cap [] (by simp) (by simp) (by simp)⟩
    ·obtain ⟨l,hf,hm⟩:=GZ hl him hv
     exact ⟨l,hf,.ofSlice w hu _ _ cap l hf.len (fun j u hj=>by rw [iY];exact hi.ZO _ _ _ (hm j u hj)) (hf.one hcell)⟩
  ·cases h
 ·rename_i s hu
  split at h
  ·rename_i hz;subst hz
   cases h;cases hx;have hs:(ByteArray.mk s.toArray).size=s.length:=by simp [ByteArray.size]
   refine ⟨byteCells ⟨s.toArray⟩,⟨hlen,by rw [byteCells_length,hs];simp,fun i j r av h1 h2 => ?_⟩,by rw [ama,← hs];exact Src.ofString w hu ⟨s.toArray⟩⟩;rw [amK,amn] at h1;obtain ⟨c,hc1,rfl⟩:=h1;cases j with
   |succ j=>simp at h2
   |zero=>
    simp at h2;subst h2;exact ⟨.int .u8 c.toNat,by simp [byteCells,hc1],.int _ _⟩
  ·cases h
 ·rename_i e' id off len esz room hu
  split at h
  ·rename_i cs T0 hcs
   split at h
   ·rename_i hh
    obtain ⟨rfl,hle⟩:=hh;cases h;obtain ⟨b,vs,T,h1,h2,h3,h4,h5,h6,h7,h8s⟩:=hi.obj id _ hcs;cases hx with
    |Za _ _ _ _ _ b' cap hb hcap=>
     rw [h1] at hb;cases hb
     have hget:∀ k,k<len*esz→∃ v,vs[off+k]?=some v∧∀ av,cs[off+k]?=some av→V K av v:=fun k hk=>by
      have hlt:off+k<vs.size:=by omega
      refine ⟨vs[off+k],by simp [hlt],fun av hav => ?_⟩;have:=h5 (off+k) av hav;rwa [pF (amz hlt)] at this
     have hf:rl K esz (iT esz len (cs.drop off)) ((vs.toList.drop off).take (len*esz)):=by
      refine rl.afD (by simp;omega) (by simp;omega) fun k av hk hav => ?_
      rw [amM] at hav;obtain ⟨v,g1,g2⟩:=hget k hk;exact ⟨v,by simp [amE,hk,amM,g1],g2 av hav⟩
     refine ⟨_,hf, ?_⟩;rw [oC]
     exact .ofSlice w hu _ len cap _ (by simp;omega) (fun j u hj=>by
      rw [iY,de h3];rw [amE] at hj;split at hj
      ·rw [amM] at hj;simpa using hj
      ·cases hj) (hf.one hcell)
   ·cases h
  ·cases h
 ·cases h
theorem rl.strip{esz:Nat}{rows:List (List AV)}{l:List Value}(h:rl K esz rows l):rl K esz (rows.map (·.map AV.strip)) l:=by
 refine ⟨fun r hr => ?_,by rw [ama];exact h.len,fun i j r av h1 h2 => ?_⟩
 ·obtain ⟨r',h1,rfl⟩:=anD.1 hr
  rw [ama];exact h.hl r' h1
 ·rw [amK,amn] at h1
  obtain ⟨r',h3,rfl⟩:=h1;rw [amK,amn] at h2;obtain ⟨a,h4,rfl⟩:=h2;obtain ⟨v,h5,h6⟩:=h.get i j r' a h3 h4;exact ⟨v,h5,h6.strip⟩
theorem sK(w:World)(need old:Nat)(e:TypeId):need≤grownCap w need old e:=by
 simp only [grownCap,Question.cut];omega
theorem CF(hi:Inv K H w){sT xT:TypeId}{s x v:AV}{cs cx:Value}{H':List Y4}(hs:V K s cs)(hx:V K x cx)(h:Cd P H sT xT s x=some (v,H'))(ty:TypeId) :
  ∃ K' cv w',K.le K'∧(Builtin.append_ #[sT,xT] ty #[cs,cx]).run P w = .ok cv w'∧V K' v cv∧Inv K' H' w':=by
 unfold Cd at h;split at h<;>try (cases h;done)
 rename_i e hu;split at h<;>try (cases h;done)
 rename_i i hinfo;split at h<;>try (cases h;done)
 rename_i z new hz hsrc;split at h<;>try (cases h;done)
 rename_i tag esz rows;split at h<;>try (cases h;done)
 rename_i hh;obtain ⟨h1,h2,h3,h4,h5⟩:=hh;obtain ⟨l,hf,hS⟩:=CS hi hx hsrc h5;have hfs:=hf.strip
 have hcs:∃ base cap,cs = .slice base rows.length cap∧rows.length≤cap:=by
  cases hs with
  |Zo _ _ a _=>exact ⟨a,0,rfl,amp _⟩
  |Zk _ _ a cap _=>exact ⟨a,cap,rfl,anC _⟩
  |slice _ _ _ b o cap vs hl him hv hcap ht=>exact ⟨_,cap,rfl,hcap⟩
 have hold:∃ ol,rl K i.size rows ol∧∀ base cap,cs = .slice base rows.length cap→(Builtin.firstCells i.size rows.length (.slice base rows.length cap)).run P w.drew = .ok ol.toArray w.drew:=by
  have hnil:rows=[]→∃ ol,rl K i.size rows ol∧∀ base cap,cs = .slice base rows.length cap→(Builtin.firstCells i.size rows.length (.slice base rows.length cap)).run P w.drew = .ok ol.toArray w.drew:=by
   rintro rfl;refine ⟨[],⟨by simp,by simp,fun i j r av h1=>by simp at h1⟩,fun base cap _ => ?_⟩;cases base with
   |none=>simp [Builtin.firstCells]
   |some a=>simp [Builtin.firstCells,loadCells,loadCellsFrom]
  cases hs with
  |Zo=>exact hnil rfl
  |Zk=>exact hnil rfl
  |slice _ _ _ b o cap vs hl him hv hcap ht=>
   rcases h1 with h1 | h1
   ·exact hnil h1
   ·subst h1
    obtain ⟨ol,hf1,hm⟩:=GZ hl him hv;refine ⟨ol,hf1,fun base cap' e => ?_⟩;cases e;exact run_firstCells_some (P:=P) w.drew i.size rows.length _ rows.length _ ol hf1.len (fun j u hj=>by rw [iY];have:=hi.ZO _ _ _ (hm j u hj);simpa using this)
 obtain ⟨ol,hfo,hrun⟩:=hold;obtain ⟨base,cap,rfl,hcap⟩:=hcs
 have grow:∀ (t:Nat) (K1:aC) (H1:List Y4) (fr:Nat),Inv K1 H1 w→K.le K1→H1[t]?=some (.tok fr e)→(rows.length+new.length)*i.size≤fr→cap<rows.length+new.length →
   ∃ K' cv w',K.le K'∧(Builtin.append_ #[sT,xT] ty #[.slice base rows.length cap,cx]).run P w = .ok cv w'∧V K' (.slice (.own t) i.size (rows++new.map (·.map AV.strip))) cv∧Inv K' H1 w':=by
  intro t K1 H1 fr hi1 hk1 ht hfr hlt;have hg:=run_append_grow_src (P:=P) w sT xT ty e i z hu hinfo hz base rows.length cap ol (hrun base cap rfl) cx new.length l hS hlt (by omega) (growslice_fits hlt h3);have hsz:(ol++l).length=(rows.length+new.length)*i.size:=by rw [al8,hfo.len,hf.len,amT]
  generalize hC:grownCap w (rows.length+new.length) cap e=C at hg;have hC2:rows.length+new.length≤C:=by rw [← hC];exact sK _ _ _ _
  have hsz2:((ol++l).toArray++Builtin.zeroCells z.cells (C-(rows.length+new.length))).size=C*i.size:=by
   rw [aos,size_zeroCells,h2];simp only [apl,hsz];rw [← amT];congr 1;omega
  have hal:=hi1.drew.agR ((ol++l).toArray++Builtin.zeroCells z.cells (C-(rows.length+new.length))) e ((rows.length+new.length)*i.size) t fr ht hfr
  have hle2:K1.le ((K1.ext w.drew.heap.size (fun o=>if o<(rows.length+new.length)*i.size then ((ol++l).toArray++Builtin.zeroCells z.cells (C-(rows.length+new.length)))[o]? else none)).aeD w.drew.heap.size
    (t,((ol++l).toArray++Builtin.zeroCells z.cells (C-(rows.length+new.length))).size)):=by
   have h0:=K1.abL w.drew.heap.size (fun o=>if o<(rows.length+new.length)*i.size then ((ol++l).toArray++Builtin.zeroCells z.cells (C-(rows.length+new.length)))[o]? else none) hi1.drew.new (fun o v h=>by rw [hi1.drew.aa3 o] at h;cases h);refine ⟨fun b o v hv=>h0.ZO b o v hv,fun b x hx => ?_,fun _ _ h=>h,rfl,rfl,rfl,fun _ _ h=>h,h0.low⟩;show (if b=w.drew.heap.size then _ else _)=_;rw [if_neg (by have:=hi1.drew.adK hx;omega)];exact hx
  have himm2:∀ (k:Nat) (u:Value),(ol++l)[k]?=some u→((K1.ext w.drew.heap.size (fun o=>if o<(rows.length+new.length)*i.size then ((ol++l).toArray++Builtin.zeroCells z.cells (C-(rows.length+new.length)))[o]? else none)).aeD w.drew.heap.size
    (t,((ol++l).toArray++Builtin.zeroCells z.cells (C-(rows.length+new.length))).size)).ZO w.heap.size (0+k)=some u:=fun k u hk=>by
   have hkl:=(al3.1 hk).1;refine aC.abN (K:=K1) (b:=w.drew.heap.size) (f:=fun o=>if o<(rows.length+new.length)*i.size then ((ol++l).toArray++Builtin.zeroCells z.cells (C-(rows.length+new.length)))[o]? else none) (o:=0+k) ?_;rw [amJ];rw [if_pos (by omega),ans (by simpa using hkl)];simpa using hk
  have hown2:((K1.ext w.drew.heap.size (fun o=>if o<(rows.length+new.length)*i.size then ((ol++l).toArray++Builtin.zeroCells z.cells (C-(rows.length+new.length)))[o]? else none)).aeD w.drew.heap.size
    (t,((ol++l).toArray++Builtin.zeroCells z.cells (C-(rows.length+new.length))).size)).own w.heap.size=some (t,C*i.size):=by
   show (if w.heap.size=w.heap.size then some (t,_) else _)=_;rw [if_pos rfl,hsz2]
  generalize (K1.ext w.drew.heap.size (fun o=>if o<(rows.length+new.length)*i.size then ((ol++l).toArray++Builtin.zeroCells z.cells (C-(rows.length+new.length)))[o]? else none)).aeD w.drew.heap.size
    (t,((ol++l).toArray++Builtin.zeroCells z.cells (C-(rows.length+new.length))).size)=K2 at hal hle2 himm2 hown2
  refine ⟨K2,_,_,hk1.trans hle2,hg, ?_,hal⟩;have hcat:rl K i.size (rows++new.map (·.map AV.strip)) (ol++l):=hfo.append hfs;have hlen:(rows++new.map (·.map AV.strip)).length=rows.length+new.length:=by simp
  have:=(hcat.mono (hk1.trans hle2)).slice (b:=w.heap.size) (o:=0) (cap:=C) (tag:=.own t) himm2 (by rw [hlen];exact hC2) ⟨hle2.lt (by rw [hi1.len];exact (al3.1 ht).1),.inr ⟨rfl,hown2⟩⟩;rw [hlen] at this;exact this
 cases hnew:new with
 |nil=>
  rw [hnew] at h;cases h;have hroom:rows.length+new.length≤cap:=by rw [hnew];simpa using hcap
  refine ⟨K,.slice base rows.length cap,w,.refl K, ?_,hs,hi⟩;have hl0:l=[]:=by have:=hf.len;rw [hnew] at this;simpa using this
  have hS0:=hS;rw [hnew,hl0] at hS0;have hln:=hS0.len;have hcl:=hS0.cells;simp only [amw] at hln hcl;cases base with
  |none=>
   rcases hS0.kind with ⟨e',hk⟩ | hk<;>simp [Builtin.append_,run_underlying hu,run_underlying hk,sizeOf,typeInfo,hinfo,hln,hcl,hcap]
  |some a=>
   rcases hS0.kind with ⟨e',hk⟩ | hk<;>simp [Builtin.append_,run_underlying hu,run_underlying hk,sizeOf,typeInfo,hinfo,hln,hcl,hcap,storeCells]
 |cons r0 rs=>
  have hpos:0<new.length:=by rw [hnew];simp
  rw [hnew] at h;simp only at h;rw [← hnew] at h;split at h
  ·cases h
  ·cases h
  ·
   cases h
   have hcaplen:cap=rows.length:=by
    cases hs with
    |Zk _ _ _ _ e=>simp at e
    |Zo=>rfl
    |slice _ _ _ b o _ vs hl him hv hcap ht=>exact ht
   have hi1:=(hi.aez e).aeS (t:=H.length) (T:=e) (fr:=0) (fr':=(rows.length+new.length)*i.size) (by simp) (anC _);have e1:(H++[Y4.tok 0 e]).set H.length (.tok ((rows.length+new.length)*i.size) e)=H++[.tok ((rows.length+new.length)*i.size) e]:=by simp
   rw [e1] at hi1;exact grow H.length (K.push 0) _ _ hi1 (K.aaI 0) (by simp) (amp _) (by omega)
  ·
   cases h
   have hcaplen:cap=rows.length:=by
    cases hs with
    |Zk _ _ _ _ e=>simp at e
    |Zo=>rfl
    |slice _ _ _ b o _ vs hl him hv hcap ht=>exact (ht:False).elim
   have hi1:=(hi.aez e).aeS (t:=H.length) (T:=e) (fr:=0) (fr':=(rows.length+new.length)*i.size) (by simp) (anC _);have e1:(H++[Y4.tok 0 e]).set H.length (.tok ((rows.length+new.length)*i.size) e)=H++[.tok ((rows.length+new.length)*i.size) e]:=by simp
   rw [e1] at hi1;exact grow H.length (K.push 0) _ _ hi1 (K.aaI 0) (by simp) (amp _) (by omega)
  ·
   rename_i t;split at h
   ·rename_i fr T0 ht
    split at h
    ·rename_i hfr0
     obtain ⟨hfr,hes,rfl⟩:=hfr0;cases h;have hfr2:(rows.length+new.length)*i.size=fr+new.length*i.size:=by rw [amT,hfr]
     by_cases hroom:rows.length+new.length≤cap
     ·cases hs with
      |Zk _ _ _ _ e=>simp at e
      |Zo=>exact absurd hroom (by simp;intro e;rw [e] at hpos;simp at hpos)
      |slice _ _ _ b o _ vs hl him hv hcap ht'=>
       obtain ⟨htl,⟨he,_⟩ | ⟨rfl,hown⟩⟩:=ht'
       ·omega
       obtain ⟨hb,fr',us,T,lo,hhi,g1,g2,g3,g4,g5⟩:=hi.own b t _ hown;rw [ht] at g1;cases g1;subst hes
       have hfit:fr+l.length≤cap*i.size:=by
        rw [hf.len,← hfr2];exact amR _ hroom
       have hin:=hi.af1 l hown ht hfit
       have hr:=run_append_room_src (P:=P) w sT xT ty _ i hu hinfo b 0 rows.length cap cx new.length l hS hroom (fun j hj=>by
         rw [amJ,← hfr,de g2];simp;omega) (fun j hj=>by
         rw [amJ,← hfr];simp [World.frozen?,g2];omega)
       rw [amJ,← hfr] at hr;rw [hf.len] at hin
       have hle:K.le (K.ext b (fun o=>if fr≤o then l[o-fr]? else none)):=K.abL b _ (hi.own _ _ _ hown).1 fun o v h=>by
        have:=g5 o v h;rw [if_neg (by omega)]
       refine ⟨_,_,_,hle,hr, ?_,hin⟩;obtain ⟨ol',hf1,hm⟩:=GZ hl him hv;have hcat:rl K i.size (rows++new.map (·.map AV.strip)) (ol'++l):=hf1.append hfs;have hlen:(rows++new.map (·.map AV.strip)).length=rows.length+new.length:=by simp
       have hres:=(hcat.mono hle).slice (b:=b) (o:=0) (cap:=cap) (tag:=.own t) (fun k u hk => ?_) (by rw [hlen];exact hroom) ⟨by simpa [aC.ext] using htl,.inr ⟨rfl,hown⟩⟩
       ·rw [hlen] at hres;exact hres
       by_cases hk1:k<ol'.length
       ·rw [al7 hk1] at hk
        exact hle.ZO _ _ _ (hm k u hk)
       ·rw [amm (by omega)] at hk
        refine aC.abN ?_;have e1:ol'.length=fr:=by rw [hf1.len,hfr]
        rw [amJ,if_pos (by omega),← e1];exact hk
     ·have hi1:=hi.aeS (fr':=fr+new.length*i.size) ht (aoV _ _)
      have htl:=(al3.1 ht).1;exact grow t K _ (fr+new.length*i.size) hi1 (.refl K) (by simp [htl]) (by omega) (by omega)
    ·cases h
   ·cases h
end
def we(P:Program)(H:List Y4)(sT xT:TypeId)(s x:AV):Option (AV×List Y4):=
 match P.underlying sT with
 |some (.slice e)=>match P.info? e with
  |some i=>match i.zero,NW P H i.size xT x with
   |some z,some new=>
    if z.cells.size=i.size∧new.all (fun r=>r.length == i.size&&r.all AV.cell)=true then
     match s with
     |.slice .full esz rows=>
      if (rows=[]∨esz=i.size)∧(rows.length+new.length)*i.bytes≤140737488355328∧rows.length+new.length≤4611686018427387904∧new≠[] then
       some (.Za H.length 0 (rows.length+new.length) i.size true,H++[.cells (rows++new).flatten e])
      else if new=[] then some (s,H) else none
     |.Za id 0 len esz true=>match H[id]? with
      |some (.cells cs T)=>
       if esz=i.size∧T=e∧len*esz≤cs.length∧(len+new.length)*i.bytes≤140737488355328∧len+new.length≤4611686018427387904 then
        some (.Za H.length 0 (len+new.length) esz true,H.set id .dead++[.cells (cs.take (len*esz)++new.flatten) e])
       else none
      |_=>none
     |_=>none
    else none
   |_,_=>none
  |none=>none
 |_=>none
section
variable{P:Program}{K:aC}{H:List Y4}{w:World}
theorem Bd{esz:Nat}:∀ {rows:List (List AV)} (_:∀ r,r∈rows→r.length=esz) {k:Nat}{av:AV},rows.flatten[k]?=some av →
  ∃ i j r,rows[i]?=some r∧r[j]?=some av∧k=i*esz+j
 |[],_,k,av,h=>by simp at h
 |r::rows,hl,k,av,h=>by
  rw [aoO] at h;have hr:=hl r (by simp)
  by_cases hk:k<r.length
  ·rw [al7 hk] at h
   exact ⟨0,k,r,rfl,h,by omega⟩
  ·rw [amm (by omega)] at h
   obtain ⟨i,j,r',h1,h2,h3⟩:=Bd (fun r hr=>hl r (by simp [hr])) h;refine ⟨i+1,j,r',by simpa using h1,h2, ?_⟩;rw [amT];omega
theorem Be{esz:Nat}:∀ {rows:List (List AV)} (_:∀ r,r∈rows→r.length=esz),rows.flatten.length=rows.length*esz
 |[],_=>by simp
 |r::rows,hl=>by
  rw [aoO,al8,Be (fun r hr=>hl r (by simp [hr])),hl r (by simp),amk,amT];omega
theorem rl.cells{esz:Nat}{rows:List (List AV)}{l:List Value}(h:rl K esz rows l):rows.flatten.length=l.length∧∀ (k:Nat) (av:AV),rows.flatten[k]?=some av→∃ v,l[k]?=some v∧V K av v:=by
 refine ⟨by rw [Be h.hl,h.len],fun k av hk => ?_⟩;obtain ⟨i,j,r,h1,h2,rfl⟩:=Bd h.hl hk;exact h.get i j r av h1 h2
theorem Inv.again(hi:Inv K H w){id b:Nat}{old cs:List AV}{vs:Array Value}{T:TypeId}{T0:TypeId}(hx:H[id]?=some (.cells old T0))(hb:K.loc[id]?=some b)(hw:w.heap[b]?=some (.cells vs T (0,0)))
  (hl:cs.length≤vs.size) (hv:∀ (k:Nat) (av:AV),cs[k]?=some av→V K av (vs.getD k undef)):Inv (K.push b) (H.set id .dead++[.cells cs T0]) w:=by
 have hi1:=hi.kill hx rfl;have hle:=K.aaI b;obtain ⟨b',vs',T',h1,h2,h3,h4,h5,h6,h7,h8,h9⟩:=hi.obj id _ hx;rw [hb] at h1;cases h1;rw [hw] at h3;cases h3;refine ⟨hi1.below,hi1.base,hi1.ZO,by simp [aC.push,aC.ZJ,hi.len],fun i y hy => ?_,fun i j y z hy hz ly lz hij => ?_,fun b' t n h => ?_,fun g cs hg=>(hi.ZC g cs hg).mono hle,hi.shape⟩
 ·rcases rj hy with hy | ⟨rfl,rfl⟩
  ·exact (hi1.obj i y hy).mono hle (fun _ _ _ _=>rfl) (fun _ _ _=>⟨fun _ h=>h,fun h=>h,fun h=>h⟩)
  ·exact ⟨b,vs,T,by simp [aC.push,aC.ZJ,hi.len],h2,hw,hl,fun k av hk=>(hv k av hk).mono hle,h6,h7,h8,h9⟩
 ·show (K.loc++[b])[i]?≠(K.loc++[b])[j]?
  have hne:∀ (i:Nat) (y:Y4),(H.set id .dead)[i]?=some y→y.live=true→(K.loc++[b])[i]?≠some b:=fun i y hy ly=>by
   rcases ka hy with ⟨_,rfl⟩ | ⟨hni,hy⟩
   ·cases ly
   ·obtain ⟨b2,e1,_,_⟩:=hi.ZF hy ly
    rw [al7 (al3.1 e1).1,e1];intro e;cases e;exact hi.inj i id y _ hy hx ly rfl hni (e1.trans hb.symm)
  have hlast:(K.loc++[b])[(H.set id Y4.dead).length]?=some b:=by simp [← hi.len]
  rcases rj hy with hy | ⟨rfl,_⟩<;>rcases rj hz with hz | ⟨rfl,_⟩
  ·have e1:=(al3.1 hy).1
   have e2:=(al3.1 hz).1;rw [aoY,← hi.len] at e1 e2;rw [al7 e1,al7 e2];exact hi1.inj i j y z hy hz ly lz hij
  ·rw [hlast];exact hne i y hy ly
  ·rw [hlast];exact fun e=>hne j z hz lz e.symm
  ·exact absurd rfl hij
 ·obtain ⟨hb',fr,us,T',lo,hh,g1,g2⟩:=hi1.own b' t n h
  exact ⟨hb',fr,us,T',lo,hh,by rw [al7 (al3.1 g1).1];exact g1,g2⟩
theorem Inv.adH{id b:Nat}(hb:K.loc[id]?=some b):∀ (as:List AV) (l:List Value) (o:Nat) (H:List Y4) (w:World) (old:List AV) (T0:TypeId),Inv K H w→H[id]?=some (.cells old T0)→as.length=l.length→o+as.length≤old.length →
  (∀ (j:Nat) (av:AV),as[j]?=some av→∃ v,l[j]?=some v∧V K av v)→Inv K (H.set id (.cells (bq old o as) T0)) (w.setCells b o l)
 |[],[],o,H,w,old,T0,hi,ho,_,_,_=>by rw [bq,Hu ho];exact hi
 |[],_::_,_,_,_,_,_,_,_,h,_,_=>by cases h
 |_::_,[],_,_,_,_,_,_,_,h,_,_=>by cases h
 |a::as,x::l,o,H,w,old,T0,hi,ho,hlen,hle,hv=>by
  obtain ⟨x',hx',hax⟩:=hv 0 a rfl;simp at hx';subst hx';have hi':=hi.store ho (off:=o) (by simp at hle;omega) hb hax;have hid:=(al3.1 ho).1
  have:=Inv.adH hb as l (o+1) (H.set id (.cells (old.set o a) T0)) _ (old.set o a) T0 hi' (by simp [hid]) (by simpa using hlen) (by simp at hle ⊢;omega)
   (fun j av hj=>by simpa using hv (j+1) av (by simpa using hj))
  rw [apo] at this;exact this
theorem Bf(b:Nat):∀ (l:List Value) (o:Nat) (w:World) (vs:Array Value) (T:TypeId) (f:Nat×Nat),w.heap[b]?=some (.cells vs T f)→o+l.length≤vs.size →
  ∃ vs':Array Value,(w.setCells b o l).heap[b]?=some (.cells vs' T f)∧vs'.size=vs.size∧∀ k,vs'.getD k undef=if o≤k∧k<o+l.length then l.getD (k-o) undef else vs.getD k undef
 |[],o,w,vs,T,f,h,_=>⟨vs,h,rfl,fun k=>by rw [if_neg (by simp only [amw];omega)]⟩
 |v::r,o,w,vs,T,f,h,hle=>by
  simp only [amk] at hle;obtain ⟨vs',h1,h2,h3⟩:=Bf b r (o+1) (w.setCell ⟨b,o,none⟩ v) (vs.setIfInBounds o v) T f (by rw [heap_setCell w b o v vs T f h,if_pos rfl]) (by simp;omega);refine ⟨vs',h1,by simpa using h2,fun k => ?_⟩;rw [h3 k]
  by_cases hk:o+1≤k∧k<o+1+r.length
  ·rw [if_pos hk,if_pos (by simp;omega)]
   have:k-o=(k-(o+1))+1:=by omega
   rw [this];rfl
  ·rw [if_neg hk]
   by_cases hko:k=o
   ·subst hko
    rw [if_pos (by simp)]
    have:k<vs.size:=by omega
    simp [amd,this]
   ·rw [if_neg (by simp;omega)]
    simp [amd,anf (fun h=>hko h.symm)]
theorem wg(hi:Inv K H w){sT xT:TypeId}{s x v:AV}{cs cx:Value}{H':List Y4}(hs:V K s cs)(hx:V K x cx)(h:we P H sT xT s x=some (v,H'))(ty:TypeId) :
  ∃ K' cv w',K.le K'∧(Builtin.append_ #[sT,xT] ty #[cs,cx]).run P w = .ok cv w'∧V K' v cv∧Inv K' H' w':=by
 unfold we at h;split at h<;>try (cases h;done)
 rename_i e hu;split at h<;>try (cases h;done)
 rename_i i hinfo;split at h<;>try (cases h;done)
 rename_i z new hz hsrc;split at h<;>try (cases h;done)
 rename_i hh;obtain ⟨h2,h5⟩:=hh;obtain ⟨l,hf,hS⟩:=CS hi hx hsrc h5;obtain ⟨hfl,hfc⟩:=hf.cells
 have grow:∀ (base:Option Addr) (len cap:Nat) (ol:List Value) (as:List AV),(Builtin.firstCells i.size len (.slice base len cap)).run P w.drew = .ok ol.toArray w.drew→ol.length=len*i.size→as.length=ol.length →
   (∀ (k:Nat) (av:AV),as[k]?=some av→∃ v,ol[k]?=some v∧V K av v)→len≤cap→cap<len+new.length→(len+new.length)*i.bytes≤140737488355328→len+new.length≤4611686018427387904 →
   ∀ (H1:List Y4),Inv K H1 w→H1.length=H.length →
   ∃ K' cv w',K.le K'∧(Builtin.append_ #[sT,xT] ty #[.slice base len cap,cx]).run P w = .ok cv w'∧V K' (.Za H.length 0 (len+new.length) i.size true) cv∧Inv K' (H1++[.cells (as++new.flatten) e]) w':=by
  intro base len cap ol as hrun holn hasl has hcap hlt h3 h4 H1 hi1 hH1;have hg:=run_append_grow_src (P:=P) w sT xT ty e i z hu hinfo hz base len cap ol hrun cx new.length l hS hlt (by omega) (growslice_fits hlt h3);have hsz:(ol++l).length=(len+new.length)*i.size:=by rw [al8,holn,hf.len,amT]
  generalize hC:grownCap w (len+new.length) cap e=C at hg;have hC2:len+new.length≤C:=by rw [← hC];exact sK _ _ _ _
  have hsz2:((ol++l).toArray++Builtin.zeroCells z.cells (C-(len+new.length))).size=C*i.size:=by
   rw [aos,size_zeroCells,h2];simp only [apl,hsz];rw [← amT];congr 1;omega
  generalize hvs:(ol++l).toArray++Builtin.zeroCells z.cells (C-(len+new.length))=vs at hg hsz2;have hi2:=hi1.drew
  have hcat:∀ (k:Nat) (av:AV),(as++new.flatten)[k]?=some av→∃ v,(ol++l)[k]?=some v∧V K av v:=fun k av hk=>by
   by_cases hkl:k<as.length
   ·rw [al7 hkl] at hk
    rw [al7 (by omega)];exact has k av hk
   ·rw [amm (by omega)] at hk
    rw [amm (by omega),← hasl];exact hfc _ av hk
  have hal:=hi2.aaU (.cells (as++new.flatten) e) (.cells vs e) rfl (some (.rows vs.size)) (fun s h=>by cases h;exact ⟨vs,e,(0,0),by rw [heap_alloc,if_pos rfl],rfl⟩) fun w' hw' g1 g2=>
   ⟨w.drew.heap.size,vs,e,by simp [aC.ZJ],hi2.new,hw',by rw [hsz2,al8,hasl,hfl,← al8,hsz];exact amR _ hC2,fun k av hk=>by
    obtain ⟨v,e1,e2⟩:=hcat k av hk;have hkl:=(al3.1 e1).1
    have:vs[k]?=some v:=by rw [← hvs,ans (by simpa using hkl)];simpa using e1
    rw [pF this];exact e2.mono (K.aal _ _ hi2.ZZ),g1,g2,by simp [aC.ZJ],rfl⟩
  refine ⟨K.ZJ w.drew.heap.size (some (.rows vs.size)),_,_,K.aal _ _ hi2.ZZ,hg, ?_,hal⟩;refine .Za _ _ _ _ _ _ _ (by simp [aC.ZJ,← hH1,← hi1.len]) hC2 (fun _=>⟨vs.size,by simp [aC.ZJ],by rw [hsz2];omega⟩)
 split at h
 ·rename_i esz rows
  split at h
  ·rename_i hc
   obtain ⟨h1,h3,h4,hne⟩:=hc;cases h;have hpos:0<new.length:=ao7.2 hne
   have hcs:∃ base cap,cs = .slice base rows.length cap∧cap=rows.length:=by
    cases hs with
    |Zo _ _ a _=>exact ⟨a,0,rfl,rfl⟩
    |Zk _ _ _ _ e=>simp at e
    |slice _ _ _ b o cap vs hl him hv hcap ht=>exact ⟨_,cap,rfl,ht⟩
   have hold:∃ ol,rl K i.size rows ol∧∀ base cap,cs = .slice base rows.length cap→(Builtin.firstCells i.size rows.length (.slice base rows.length cap)).run P w.drew = .ok ol.toArray w.drew:=by
    have hnil:rows=[]→∃ ol,rl K i.size rows ol∧∀ base cap,cs = .slice base rows.length cap→(Builtin.firstCells i.size rows.length (.slice base rows.length cap)).run P w.drew = .ok ol.toArray w.drew:=by
     rintro rfl;refine ⟨[],⟨by simp,by simp,fun i j r av h1=>by simp at h1⟩,fun base cap _ => ?_⟩;cases base with
     |none=>simp [Builtin.firstCells]
     |some a=>simp [Builtin.firstCells,loadCells,loadCellsFrom]
    cases hs with
    |Zo=>exact hnil rfl
    |Zk=>exact hnil rfl
    |slice _ _ _ b o cap vs hl him hv hcap ht=>
     rcases h1 with h1 | h1
     ·exact hnil h1
     ·subst h1
      obtain ⟨ol,hf1,hm⟩:=GZ hl him hv;refine ⟨ol,hf1,fun base cap' e => ?_⟩;cases e;exact run_firstCells_some (P:=P) w.drew i.size rows.length _ rows.length _ ol hf1.len (fun j u hj=>by rw [iY];have:=hi.ZO _ _ _ (hm j u hj);simpa using this)
   obtain ⟨ol,hfo,hrun⟩:=hold;obtain ⟨base,cap,rfl,rfl⟩:=hcs;obtain ⟨hol,hoc⟩:=hfo.cells;have:=grow base rows.length rows.length ol rows.flatten (hrun base _ rfl) hfo.len hol hoc (amp _) (by omega) h3 h4 H hi rfl;rw [List.flatten_append];exact this
  ·split at h
   ·rename_i hnew
    cases h;subst hnew
    have hcs:∃ base cap,cs = .slice base rows.length cap∧rows.length≤cap:=by
     cases hs with
     |Zo _ _ a _=>exact ⟨a,0,rfl,amp _⟩
     |Zk _ _ _ _ e=>simp at e
     |slice _ _ _ b o cap vs hl him hv hcap ht=>exact ⟨_,cap,rfl,hcap⟩
    obtain ⟨base,cap,rfl,hcap⟩:=hcs;refine ⟨K,.slice base rows.length cap,w,.refl K, ?_,hs,hi⟩;have hl0:l=[]:=by have:=hf.len;simpa using this
    have hS0:=hS;rw [hl0] at hS0;have hln:=hS0.len;have hcl:=hS0.cells;simp only [amw] at hln hcl;cases base with
    |none=>rcases hS0.kind with ⟨e',hk⟩ | hk<;>simp [Builtin.append_,run_underlying hu,run_underlying hk,sizeOf,typeInfo,hinfo,hln,hcl,hcap]
    |some a=>rcases hS0.kind with ⟨e',hk⟩ | hk<;>simp [Builtin.append_,run_underlying hu,run_underlying hk,sizeOf,typeInfo,hinfo,hln,hcl,hcap,storeCells]
   ·cases h
 ·rename_i id len esz
  split at h
  ·rename_i old T0 hold
   split at h
   ·rename_i hc
    obtain ⟨rfl,rfl,hle,h3,h4⟩:=hc;cases h;obtain ⟨b,vs,T,g1,g2,g3,g4,g5,g6,g7,g8,g9⟩:=hi.obj id _ hold;cases hs with
    |Za _ _ _ _ _ b' cap hb hcap hro=>
     rw [g1] at hb;cases hb;obtain ⟨n,hn1,hn2⟩:=hro rfl;rw [g8] at hn1;cases hn1
     by_cases hroom:len+new.length≤cap
     ·
      have hfit:len*i.size+l.length≤vs.size:=by
       rw [hf.len,← amT];have:=amR i.size hroom;omega
      have hr:=run_append_room_src (P:=P) w sT xT ty _ i hu hinfo b 0 len cap cx new.length l hS hroom (fun j hj=>by
        rw [amJ,de g3];simp;omega) (fun j hj=>by
        rw [amJ];simp [World.frozen?,g3])
      rw [amJ] at hr;obtain ⟨vs',e1,e2,e3⟩:=Bf b l (len*i.size) w vs T (0,0) g3 hfit;have hid:=(al3.1 hold).1
      have hi0:=hi.again (T0:=T0) (cs:=(old.take (len*i.size))++List.replicate l.length AV.ZW) hold g1 g3 (by simp;omega) (fun k av hk=>by
       by_cases hkl:k<(old.take (len*i.size)).length
       ·rw [al7 hkl] at hk
        rw [amE] at hk;split at hk
        ·exact g5 k av hk
        ·cases hk
       ·rw [amm (by omega),List.getElem?_replicate] at hk
        split at hk
        ·cases hk;exact .ZW _
        ·cases hk)
      have hlen:(H.set id Y4.dead).length=H.length:=by simp
      have hi1:=Inv.adH (K:=K.push b) (id:=H.length) (b:=b) (by simp [aC.push,aC.ZJ,← hi.len]) new.flatten l (len*i.size) _ w ((old.take (len*i.size))++List.replicate l.length AV.ZW) T0 hi0 (by simp) hfl
       (by simp [hfl];omega) (fun j av hj=>by obtain ⟨v,f1,f2⟩:=hfc j av hj;exact ⟨v,f1,f2.mono (K.aaI b)⟩)
      refine ⟨K.push b,_,_,K.aaI b,hr,.Za _ _ _ _ _ _ _ (by simp [aC.push,aC.ZJ,← hi.len]) hroom (fun _=>⟨vs.size,g8,hn2⟩), ?_⟩
      have hset:∀ (as new:List AV) (m:Nat),m=as.length→∀ (us:List AV),us.length=new.length→bq (as++us) m new=as++new:=by
       intro as new;induction new generalizing as with
       |nil=>intro m _ us hus;cases us with | nil=>rfl | cons=>cases hus
       |cons a new ih=>
        intro m hm us hus;cases us with
        |nil=>cases hus
        |cons u us=>
         rw [bq];have e1:(as++u::us).set m a=(as++[a])++us:=by subst hm;simp
         rw [e1,ih (as++[a]) (m+1) (by simp [hm]) us (by simpa using hus)];simp
      rw [hset (old.take (len*i.size)) new.flatten (len*i.size) (by simp;omega) _ (by simp [hfl])] at hi1;rw [anE _ _ (by simp)] at hi1;simpa using hi1
     ·
      have hget:∀ k,k<len*i.size→∃ v,vs[k]?=some v∧∀ av,old[k]?=some av→V K av v:=fun k hk=>by
       have hlt:k<vs.size:=by omega
       refine ⟨vs[k],by simp [hlt],fun av hav => ?_⟩;have:=g5 k av hav;rwa [pF (amz hlt)] at this
      have:=grow (some ⟨b,0,none⟩) len cap (vs.toList.take (len*i.size)) (old.take (len*i.size))
       (run_firstCells_some (P:=P) w.drew i.size len _ len cap _ (by simp;omega) (fun j u hj=>by
        rw [iY,de (vs:=vs) (T:=T) (f:=(0,0)) (by show w.heap[b]?=_;exact g3)];rw [amE] at hj;split at hj
        ·simpa using hj
        ·cases hj))
       (by simp;omega) (by simp;omega) (fun k av hk=>by
        rw [amE] at hk;split at hk
        ·rename_i hkl
         obtain ⟨v,f1,f2⟩:=hget k hkl;exact ⟨v,by simp [amE,hkl,f1],f2 av hk⟩
        ·cases hk) hcap (by omega) h3 h4 (H.set id .dead) (hi.kill hold rfl) (by simp)
      exact this
   ·cases h
  ·cases h
 ·cases h
end
def K5(P:Program)(t:TypeId):Option (Array (Nat×Nat)):=
 match P.underlying t with
 |some (.struct fields)=>if fields.all (fun f=>(iX P f.type).isSome) then some (fields.map fun f=>(f.offset,(iX P f.type).getD 0)) else none
 |_=>none
def Hy(P:Program)(t:TypeId)(parts:List (Nat×AV)):Option AV:=
 match AE P t,K5 P t with
 |some z,some pl=>(lC (pl[·]?) z parts).map .agg
 |_,_=>none
def yl(n:Nat):Nat→List AV→List (List AV)
 |0,_=>[]
 |k+1,cs=>cs.take n::yl n k (cs.drop n)
def Bg:Nat→List AV→List AV
 |0,_=>[]
 |n+1,z=>z++Bg n z
def xn(P:Program)(t:TypeId)(len:Nat)(parts:List (Nat×AV)):Option AV:=
 match P.underlying t with
 |some (.slice e)=>match iX P e,AE P e with
  |some sz,some z=>
   if len*sz≤16777216∧z.length=sz then
    (lC (fun i=>some (i*sz,sz)) (Bg len z) parts).map fun cs=>.slice .full sz (yl sz len (cs.map AV.strip))
   else none
  |_,_=>none
 |_=>none
section
variable{P:Program}{K:aC}{H:List Y4}{w:World}
theorem Ml(fields:List Field)(h:fields.all (fun f=>(iX P f.type).isSome)=true) :
  (fields.mapM (fun f=>Functor.map (Prod.mk f.offset) (sizeOf f.type):Field→Sem (Nat×Nat))).run P w = .ok (fields.map fun f=>(f.offset,(iX P f.type).getD 0)) w:=by
 induction fields with
 |nil=>rfl
 |cons f fs ih=>
  simp only [anq,amb] at h;obtain ⟨n,hn⟩:=Option.isSome_iff_exists.1 h.1;simp [dU hn,ih h.2,hn]
theorem K6{t:TypeId}{parts:List (Nat×AV)}{cparts:Array (Nat×Value)}{v:AV}(hl:parts.length=cparts.size)
  (hp:∀ (j i:Nat) (av:AV),parts[j]?=some (i,av)→∃ v,cparts[j]?=some (i,v)∧V K av v) (h:Hy P t parts=some v) :
  ∃ cv,(Instr.build t cparts).run P w = .ok cv w∧V K v cv:=by
 unfold Hy at h;split at h<;>try (cases h;done)
 rename_i z pl hz hpl;rw [amn] at h;obtain ⟨cs,hcs,rfl⟩:=h;obtain ⟨cz,h1,h2,_⟩:=xm (w:=w) hz K;unfold K5 at hpl;split at hpl<;>try (cases hpl;done)
 rename_i fields hu;split at hpl<;>try (cases hpl;done)
 rename_i hall;cases hpl
 obtain ⟨vs',h3,h4⟩:=zr (K:=K) _ parts cparts.toList z cs cz.cells h2 (by simpa using hl) (fun j i av hj=>by
  obtain ⟨v,e1,e2⟩:=hp j i av hj;exact ⟨v,by simpa using e1,e2⟩) hcs
 refine ⟨.agg vs', ?_,.agg _ _ h4.size h4.at_⟩;have hm:=Ml (P:=P) (w:=w) fields.toList (by rw [← Array.all_toList] at hall;exact hall);simp [Instr.build,h1,Y5 hu,aoL,hm];simp only [apd] at h3;rw [h3];rfl
theorem Bh(n:Nat)(z:List AV):(Bg n z).length=n*z.length:=by
 induction n with
 |zero=>simp [Bg]
 |succ n ih=>rw [Bg,al8,ih,amT];omega
theorem RJ(n:Nat)(z:List AV)(i:Nat)(hi:i<n*z.length):(Bg n z)[i]?=z[i % z.length]? := by
 induction n generalizing i with
 |zero=>simp at hi
 |succ n ih=>
  rw [Bg]
  by_cases h:i<z.length
  ·rw [al7 h,aoy h]
  ·rw [amm (by omega),ih (i-z.length) (by rw [amT] at hi;omega)]
   congr 1
   conv=>rhs;rw [show i=(i-z.length)+z.length by omega]
   simp
theorem qz(n k:Nat)(cs:List AV):(yl n k cs).length=k:=by
 induction k generalizing cs with
 |zero=>rfl
 |succ k ih=>simp [yl,ih]
theorem J3(n k:Nat)(cs:List AV)(i:Nat)(hi:i<k):(yl n k cs)[i]?=some ((cs.drop (i*n)).take n):=by
 induction k generalizing cs i with
 |zero=>omega
 |succ k ih=>
  cases i with
  |zero=>simp [yl]
  |succ i=>
   simp only [yl,amX];rw [ih (cs.drop n) i (by omega),aot];congr 3;rw [amT];omega
theorem NX{sz k:Nat}{cs:List AV}{vs:Array Value}(hv:Vs K cs vs)(hlen:cs.length=k*sz):rl K sz (yl sz k cs) vs.toList:=by
 refine ⟨fun r hr => ?_,by rw [qz,← hlen,hv.size];simp,fun i j r av h1 h2 => ?_⟩
 ·obtain ⟨i,hi⟩:=anI hr
  have hik:i<k:=by have:=(al3.1 hi).1;rwa [qz] at this
  rw [J3 _ _ _ _ hik] at hi;cases hi;simp [hlen]
  have:(i+1)*sz≤k*sz:=amR _ hik
  rw [amT] at this;omega
 ·have hik:i<k:=by have:=(al3.1 h1).1;rwa [qz] at this
  rw [J3 _ _ _ _ hik] at h1;cases h1;rw [amE] at h2;split at h2
  ·rw [amM] at h2
   obtain ⟨v,h3,h4⟩:=hv.get h2;exact ⟨v,by simpa using h3,h4⟩
  ·cases h2
theorem Vs.strip{cs:List AV}{vs:Array Value}(hv:Vs K cs vs):Vs K (cs.map AV.strip) vs:=
 ⟨by rw [ama];exact hv.size,fun i av hi=>by
  rw [amK,amn] at hi;obtain ⟨a,h1,rfl⟩:=hi;exact (hv.at_ i a h1).strip⟩
theorem Dy(place:Nat→Option (Nat×Nat)):∀ (parts:List (Nat×AV)) (cs cs':List AV),lC place cs parts=some cs'→cs'.length=cs.length
 |[],cs,cs',h=>by cases h;rfl
 |(i,v)::parts,cs,cs',h=>by
  rw [lC] at h;split at h
  ·split at h
   ·rw [Dy place parts _ _ h,CC]
   ·cases h
  ·cases h
theorem Bi{t e:TypeId}{len sz:Nat}{z:List AV}{parts:List (Nat×AV)}{cparts:Array (Nat×Value)}{cs:List AV}(hu:P.underlying t=some (.slice e))(hsz:iX P e=some sz)(hz:AE P e=some z)(h1:len*sz≤16777216)(h2:z.length=sz)(hl:parts.length=cparts.size)
  (hp:∀ (j i:Nat) (av:AV),parts[j]?=some (i,av)→∃ v,cparts[j]?=some (i,v)∧V K av v) (hcs:lC (fun i=>some (i*sz,sz)) (Bg len z) parts=some cs) :
  ∃ vs':Array Value,(Instr.buildSlice t len cparts).run P w = .ok (.slice (some ⟨w.heap.size,0,none⟩) len len) (w.alloc (.cells vs' e))∧Vs K cs vs'∧cs.length=len*sz:=by
 obtain ⟨cz,h3,h4,_⟩:=xm (w:=w) hz K;have hczs:cz.cells.size=sz:=by rw [← h4.size];exact h2
 let zc:Array Value:=(Array.range (len*sz)).map fun i=>cz.cells[i % cz.cells.size]!
 have hzc:Vs K (Bg len z) zc:=by
  refine ⟨by simp [zc,Bh,h2],fun i av hiv => ?_⟩;have hlt:i<len*z.length:=by have:=(al3.1 hiv).1;rwa [Bh] at this
  rw [RJ _ _ _ hlt] at hiv;obtain ⟨x,hx1,hx2⟩:=h4.get hiv;have hlt2:i<len*sz:=by rw [← h2];exact hlt
  have:zc[i]?=some x:=by
   have hx3:cz.cells[i % cz.cells.size]?=some x:=by rw [hczs,← h2];exact hx1
   have hx4:=(amh.1 hx3)
   obtain ⟨hx5,hx6⟩:=hx4;simp [zc,hlt2,getElem!_pos,hx5,hx6]
  rw [pF this];exact hx2
 obtain ⟨vs',h5,h6⟩:=zr (K:=K) (fun i=>some (i*sz,sz)) parts cparts.toList (Bg len z) cs zc hzc (by simpa using hl) (fun j i av hj=>by
  obtain ⟨v,e1,e2⟩:=hp j i av hj;exact ⟨v,by simpa using e1,e2⟩) hcs
 have hcl:cs.length=len*sz:=by rw [Dy _ _ _ _ hcs,Bh,h2]
 refine ⟨vs', ?_,h6,hcl⟩
 ·have hszr:(sizeOf e).run P w = .ok sz w:=dU hsz
  have hbig:¬ (len*sz > 2 ^ 24):=by omega
  by_cases h0:len*sz=0
  ·have hz0:zc = #[]:=by simp [zc,h0]
   rw [hz0] at h5;have e0:Array.map (fun x=>(#[]:Array Value)[x % (#[]:Array Value).size]!) (Array.range 0) = #[]:=by simp
   simp only [Instr.buildSlice,Sem.run_bind,Y5 hu,Result.andThen_ok,hszr,Sem.run_ite,hbig,if_false,h0,if_true,Sem.run_pure];rw [if_neg (by omega),e0,h5];rfl
  ·simp only [Instr.buildSlice,Sem.run_bind,Y5 hu,Result.andThen_ok,hszr,Sem.run_ite,hbig,if_false,h0,h3,Sem.run_pure]
   rw [show (Array.map (fun x=>cz.cells[x % cz.cells.size]!) (Array.range (len*sz)))=zc from rfl,h5];rfl
theorem Dz(hi:Inv K H w){t:TypeId}{len:Nat}{parts:List (Nat×AV)}{cparts:Array (Nat×Value)}{v:AV}(hl:parts.length=cparts.size)
  (hp:∀ (j i:Nat) (av:AV),parts[j]?=some (i,av)→∃ v,cparts[j]?=some (i,v)∧V K av v) (h:xn P t len parts=some v) :
  ∃ K' cv w',K.le K'∧(Instr.buildSlice t len cparts).run P w = .ok cv w'∧V K' v cv∧Inv K' H w':=by
 unfold xn at h;split at h<;>try (cases h;done)
 rename_i e hu;split at h<;>try (cases h;done)
 rename_i sz z hsz hz;split at h<;>try (cases h;done)
 rename_i hh;obtain ⟨h1,h2⟩:=hh;rw [amn] at h;obtain ⟨cs,hcs,rfl⟩:=h;obtain ⟨vs',hrun,h6,hcl⟩:=Bi (K:=K) (w:=w) hu hsz hz h1 h2 hl hp hcs;have hal:=hi.ada vs' e;have hle:K.le (K.ext w.heap.size (vs'[·]?)):=K.abL w.heap.size _ hi.new fun o v h=>by rw [hi.aa3 o] at h;cases h
 refine ⟨_,.slice (some ⟨w.heap.size,0,none⟩) len len,_,hle,hrun, ?_,hal⟩
 ·have hfl:=(NX (sz:=sz) (k:=len) h6.strip (by rw [ama];exact hcl)).mono hle
  have:=hfl.slice (b:=w.heap.size) (o:=0) (cap:=len) (tag:=.full) (fun k u hk=>by
   rw [amJ];exact aC.abN (by simpa using hk)) (by rw [qz];exact amp _) (by simp [Cy,qz])
  rw [qz] at this;exact this
theorem lS{x:AV}{cx:Value}{n m:Nat}(hx:V K x cx)(h:fX (some x) n=some m){y:Nat}(hy:m≤y)(code:BoundsCode):(Instr.sliceBound cx y code).run P w = .ok m w:=by
 unfold fX at h;split at h
 ·rename_i e;cases e
 ·rename_i k n' e
  cases e;split at h
  ·rename_i h0
   cases h;cases hx
   have:n'≤(y:Int):=by omega
   simp [Instr.sliceBound,asIntOf,h0,this]
  ·cases h
 ·cases h
end
def uw(x:AV)(i:Nat):Option AV:=
 match x with
 |.tuple vs=>vs[i]?
 |_=>none
def ym(P:Program)(src dst:TypeId)(x:AV):Option AV:=
 match P.underlying src,P.underlying dst,x with
 |some _,some (.int k),.int _ n=>some (.int k (k.wrap n))
 |some _,some .string,.int _ n=>some (.str (Utf8.encode n).data.toList)
 |some _,some .string,.str s=>some (.str s)
 |_,_,_=>none
def sL(P:Program)(t:TypeId)(x:AV):Option AV:=
 match P.underlying t with
 |some (.interface _)=>none
 |some _=>some (.iface t x)
 |none=>none
def NY(P:Program)(H:List Y4)(t:TypeId)(x:AV):Option AV:=
 match P.underlying t,x with
 |some .string,.str s=>some (.int .i64 s.length)
 |some (.slice _),.slice _ _ rows=>some (.int .i64 rows.length)
 |some (.slice _),.Za _ _ len _ _=>some (.int .i64 len)
 |some (.array n _),_=>some (.int .i64 n)
 |some (.map _ _),.ZG=>some (.int .i64 0)
 |some (.map _ _),.map id=>match H[id]? with
  |some (.map es)=>some (.int .i64 es.length)
  |_=>none
 |_,_=>none
def Mm:AV→AV→Option AV
 |.int k x,.int _ y=>some (.int k (if y > x then y else x))
 |_,_=>none
def DA:AV→AV→Option AV
 |.int k x,.int _ y=>some (.int k (if y<x then y else x))
 |_,_=>none
def xo(P:Program)(x:AV)(T:TypeId)(ok:Bool):Option AV:=
 match P.underlying T,x with
 |some (.interface _),_=>none
 |some _,.iface t v=>if t=T then some (if ok then .tuple [v,.bool true] else v) else
   if ok then (match P.info? T with
    |some i=>match i.zero with
     |some z=>some (.tuple [lH z,.bool false])
     |none=>none
    |none=>none) else none
 |some _,.Zr=>if ok then (match P.info? T with
    |some i=>match i.zero with
     |some z=>some (.tuple [lH z,.bool false])
     |none=>none
    |none=>none) else none
 |_,_=>none
section
variable{P:Program}{K:aC}{H:List Y4}{w:World}
theorem Hz{x v:AV}{i:Nat}{cx:Value}(hx:V K x cx)(h:uw x i=some v):∃ cv,(Instr.extract cx i).run P w = .ok cv w∧V K v cv:=by
 unfold uw at h;split at h
 ·obtain ⟨vs,rfl,hvs⟩:=hx.acE
  obtain ⟨cv,h1,h2⟩:=hvs.get h;exact ⟨cv,by simp [Instr.extract,h1],h2⟩
 ·cases h
theorem HA{src dst:TypeId}{x v:AV}{cx:Value}(hx:V K x cx)(h:ym P src dst x=some v):∃ cv,(convert src dst cx).run P w = .ok cv w∧V K v cv:=by
 unfold ym at h;split at h
 ·rename_i d k k' n hu1 hu2
  cases h;cases hx;exact ⟨_,by simp [convert,Y5 hu1,Y5 hu2,Conv.intToInt],.int _ _⟩
 ·rename_i d k' n hu1 hu2
  cases h;cases hx;refine ⟨.string (Utf8.encode n),by simp [convert,Y5 hu1,Y5 hu2,Conv.intToString], ?_⟩;have:=V.str (K:=K) (Utf8.encode n).data.toList;simpa using this
 ·rename_i d s hu1 hu2
  cases h;cases hx;exact ⟨_,by simp [convert,Y5 hu1,Y5 hu2],.str _⟩
 ·cases h
theorem Bj{t:TypeId}{x v:AV}{cx:Value}(hx:V K x cx)(h:sL P t x=some v):∃ cv,(Instr.makeInterface t cx).run P w = .ok cv w∧V K v cv:=by
 unfold sL at h;split at h
 ·cases h
 ·rename_i d hd hu
  cases h;refine ⟨.iface t cx, ?_,.iface _ _ _ hx⟩;simp only [Instr.makeInterface,Sem.run_bind,Y5 hu,Result.andThen_ok];rfl
 ·cases h
theorem NZ(hi:Inv K H w){t ty:TypeId}{x v:AV}{cx:Value}(hx:V K x cx)(h:NY P H t x=some v):∃ cv,(Builtin.len_ #[t] ty #[cx]).run P w = .ok cv w∧V K v cv:=by
 unfold NY at h;split at h
 ·rename_i s hu
  cases h;cases hx;refine ⟨.int .i64 s.length, ?_,.int _ _⟩;have hs:(ByteArray.mk s.toArray).size=s.length:=by simp [ByteArray.size]
  simp [Builtin.len_,Y5 hu,goInt,hs]
 ·rename_i e tag esz rows hu
  cases h;refine ⟨.int .i64 rows.length, ?_,.int _ _⟩;cases hx<;>simp [Builtin.len_,Y5 hu,goInt]
 ·rename_i e id off len esz room hu
  cases h;cases hx;exact ⟨.int .i64 len,by simp [Builtin.len_,Y5 hu,goInt],.int _ _⟩
 ·rename_i y n e hu
  cases h;exact ⟨.int .i64 n,by simp [Builtin.len_,Y5 hu,goInt],.int _ _⟩
 ·rename_i k e hu
  cases h;cases hx;exact ⟨.int .i64 0,by simp [Builtin.len_,Y5 hu,goInt],.int _ _⟩
 ·rename_i k e id hu
  split at h
  ·rename_i es hes
   cases h;obtain ⟨b,me,cl,h1,h2,h3,h4,h5⟩:=hi.obj id _ hes;cases hx with
   |map _ b' hb=>
    rw [h1] at hb;cases hb;refine ⟨.int .i64 es.length, ?_,.int _ _⟩;have hg:(getObj b).run P w = .ok (.map me cl) w:=by simp [getObj,Sem.run,h3]
    simp [Builtin.len_,Y5 hu,goInt,hg,h4]
  ·cases h
 ·cases h
theorem Mn{x y v:AV}{cx cy:Value}(hx:V K x cx)(hy:V K y cy)(h:Mm x y=some v)(ts:Array TypeId)(ty:TypeId):∃ cv,(Builtin.max_ ts ty #[cx,cy]).run P w = .ok cv w∧V K v cv:=by
 unfold Mm at h;split at h
 ·cases h;cases hx;cases hy
  exact ⟨_,by simp [Builtin.max_,Builtin.max2],.int _ _⟩
 ·cases h
theorem Mo{x y v:AV}{cx cy:Value}(hx:V K x cx)(hy:V K y cy)(h:DA x y=some v)(ts:Array TypeId)(ty:TypeId):∃ cv,(Builtin.min_ ts ty #[cx,cy]).run P w = .ok cv w∧V K v cv:=by
 unfold DA at h;split at h
 ·cases h;cases hx;cases hy
  exact ⟨_,by simp [Builtin.min_,Builtin.min2],.int _ _⟩
 ·cases h
theorem V.two{a b:AV}{x y:Value}(h1:V K a x)(h2:V K b y):V K (.tuple [a,b]) (.tuple #[x,y]):=by
 refine .tuple _ _ rfl fun i av hi => ?_
 match i,hi with
 |0,hi=>cases hi;exact h1
 |1,hi=>cases hi;exact h2
 |i+2,hi=>simp at hi
theorem DB{x v:AV}{X T:TypeId}{ok:Bool}{cx:Value}(hx:V K x cx)(h:xo P x T ok=some v):∃ cv,(Instr.typeAssert cx X T ok).run P w = .ok cv w∧V K v cv:=by
 unfold xo at h;split at h
 ·cases h
 ·rename_i d t y hd hu
  cases hx with
  |iface _ _ z hz=>
   have hnot:∀ ms,d≠.interface ms:=fun ms e=>by subst e;exact hd ms rfl
   split at h
   ·rename_i e;subst e
    cases h;cases ok
    ·refine ⟨z, ?_,hz⟩
     simp only [Instr.typeAssert,Sem.run_bind,Y5 hu,Result.andThen_ok];cases d<;>first | exact absurd rfl (hnot _) | simp
    ·refine ⟨.tuple #[z,.bool true], ?_,V.two hz (.bool _)⟩
     simp only [Instr.typeAssert,Sem.run_bind,Y5 hu,Result.andThen_ok];cases d<;>first | exact absurd rfl (hnot _) | simp
   ·rename_i hne
    split at h
    ·rename_i hok
     split at h
     ·rename_i i hi
      split at h
      ·rename_i zz hzz
       cases h;refine ⟨.tuple #[zz,.bool false], ?_,V.two (ri K zz) (.bool _)⟩;simp only [Instr.typeAssert,Sem.run_bind,Y5 hu,Result.andThen_ok];cases d<;>first | exact absurd rfl (hnot _) | simp [hne,hok,zeroValue,rk hi,hzz]
      ·cases h
     ·cases h
    ·cases h
 ·rename_i d hd hu
  cases hx;have hnot:∀ ms,d≠.interface ms:=fun ms e=>by subst e;exact hd ms rfl
  split at h
  ·rename_i hok
   split at h
   ·rename_i i hi
    split at h
    ·rename_i zz hzz
     cases h;refine ⟨.tuple #[zz,.bool false], ?_,V.two (ri K zz) (.bool _)⟩;simp only [Instr.typeAssert,Sem.run_bind,Y5 hu,Result.andThen_ok];cases d<;>first | exact absurd rfl (hnot _) | simp [hok,zeroValue,rk hi,hzz]
    ·cases h
   ·cases h
  ·cases h
 ·cases h
inductive OV (K:aC):Option AV→Option Value→Prop where
 |none:OV K .none .none
 |some (a:AV) (v:Value) (h:V K a v):OV K (.some a) (.some v)
theorem Ce{lo hi:Option AV}{clo chi:Option Value}{isS:Bool}{len cap l h:Nat}(h1:OV K lo clo)(h2:OV K hi chi)(hl:fX lo 0=some l)(hh:fX hi len=some h)(hle:l≤h)(hcap:h≤cap) :
  (Instr.sliceBounds isS len cap clo chi none).run P w = .ok (l,h,cap) w:=by
 cases h1 with
 |none=>
  cases h2 with
  |none=>cases hl;cases hh;simp [Instr.sliceBounds]
  |some a v hv=>cases hl;simp [Instr.sliceBounds,lS (P:=P) (w:=w) hv hh hcap]
 |some b u hu=>
  cases h2 with
  |none=>cases hh;simp [Instr.sliceBounds,lS (P:=P) (w:=w) hu hl hle]
  |some a v hv=>simp [Instr.sliceBounds,lS (P:=P) (w:=w) hv hh hcap,lS (P:=P) (w:=w) hu hl hle]
theorem UC{lo hi:Option AV}{clo chi:Option Value}{a:AV}{v:Value}{isS:Bool}{len cap l h m d:Nat}(h1:OV K lo clo)(h2:OV K hi chi)(hsome:hi.isSome=true)(h3:V K a v)(hl:fX lo 0=some l)(hh:fX hi d=some h)
  (hm:fX (some a) len=some m) (hle:l≤h) (hhm:h≤m) (hcap:m≤cap) :
  (Instr.sliceBounds isS len cap clo chi (some v)).run P w = .ok (l,h,m) w:=by
 cases h2 with
 |none=>cases hsome
 |some a2 v2 hv2=>
  cases h1 with
  |none=>cases hl;simp [Instr.sliceBounds,lS (P:=P) (w:=w) h3 hm hcap,lS (P:=P) (w:=w) hv2 hh hhm]
  |some b u hu=>simp [Instr.sliceBounds,lS (P:=P) (w:=w) h3 hm hcap,lS (P:=P) (w:=w) hv2 hh hhm,lS (P:=P) (w:=w) hu hl hle]
theorem V.cut{esz:Nat}{rows:List (List AV)}{b o:Nat}{vs:Nat→Nat→Value}{l h cap':Nat}{tag:Tag}(hl:∀ r,r∈rows→r.length=esz)
  (hi:∀ (i j:Nat) (r:List AV) (av:AV),rows[i]?=some r→r[j]?=some av→K.ZO b (o+i*esz+j)=some (vs i j))
  (hv:∀ (i j:Nat) (r:List AV) (av:AV),rows[i]?=some r→r[j]?=some av→V K av (vs i j)) (hlh:l≤h) (hh:h≤rows.length) (hc:h-l≤cap') (ht:tag = .any∨(tag = .full∧cap'=h-l)) :
  V K (.slice tag esz ((rows.drop l).take (h-l))) (.slice (some ⟨b,o+l*esz,none⟩) (h-l) cap'):=by
 have hget:∀ (i:Nat) (r:List AV),((rows.drop l).take (h-l))[i]?=some r→rows[l+i]?=some r:=fun i r h1=>by
  rw [amE] at h1;split at h1
  ·rwa [amM] at h1
  ·cases h1
 have hlen:((rows.drop l).take (h-l)).length=h-l:=by simp;omega
 have:=V.slice (K:=K) tag esz ((rows.drop l).take (h-l)) b (o+l*esz) cap' (fun i j=>vs (l+i) j) (fun r hr=>hl r (anu (List.mem_of_mem_take hr)))
  (fun i j r av h1 h2=>by
   rw [← hi (l+i) j r av (hget i r h1) h2];congr 1;rw [amT];omega)
  (fun i j r av h1 h2=>hv (l+i) j r av (hget i r h1) h2) (by rw [hlen];exact hc) (by
   rcases ht with rfl | ⟨rfl,e⟩
   ·trivial
   ·show cap'=_;rw [hlen];exact e)
 rw [hlen] at this;exact this
theorem K7{t:TypeId}{x v:AV}{lo hi mx:Option AV}{cx:Value}{clo chi cmx:Option Value}(hx:V K x cx)(h1:OV K lo clo)(h2:OV K hi chi)(h3:OV K mx cmx)(hms:mx.isSome=true→hi.isSome=true)
  (h:CR P t x lo hi mx=some v):∃ cv,(Instr.sliceAt t cx clo chi cmx).run P w = .ok cv w∧V K v cv:=by
 unfold CR at h;split at h
 ·rename_i s hu
  split at h
  ·rename_i l hh hl' hh'
   split at h
   ·rename_i hc
    obtain ⟨hc1,hc2⟩:=hc;cases h;cases hx;cases h3;have hs:(ByteArray.mk s.toArray).size=s.length:=by simp [ByteArray.size]
    refine ⟨.string ⟨((s.drop l).take (hh-l)).toArray⟩, ?_,.str _⟩;have hb:=Ce (P:=P) (w:=w) (isS:=false) h1 h2 hl' hh' hc1 hc2;simp only [Instr.sliceAt,Sem.run_bind,Y5 hu,Result.andThen_ok,Instr.slice,ape,amQ,if_false,hs,hb,Sem.run_pure,ByteArray.extract_mk,pure_bind]
   ·cases h
  ·cases h
 ·rename_i e tag esz rows hu
  split at h
  ·rename_i l hh m sz hl' hh' hm' hsz
   split at h
   ·rename_i hc
    obtain ⟨rfl,hc1,hc2,hc3⟩:=hc;cases h;have hszr:(sizeOf e).run P w = .ok sz w:=dU hsz
    by_cases hnil:rows.isEmpty=true∧tag = .nil∧mx.isNone=true
    ·obtain ⟨hn1,rfl,hn3⟩:=hnil
     rw [if_pos ⟨hn1,rfl,hn3⟩];obtain rfl:rows=[]:=by simpa using hn1
     have hmx:mx=none:=by simpa using hn3
     subst hmx;cases h3;have e0:l=0∧hh=0:=by simp at hc3;omega
     obtain ⟨rfl,rfl⟩:=e0
     obtain rfl:cx = .slice none 0 0:=by
      cases hx with
      |Zk _ _ _ _ e=>simp at e
      |Zo _ _ a ha=>rw [ha.2.1 rfl]
      |slice _ _ _ b o cap vs hl him hv hcap ht=>exact (ht:False).elim
     have hb:(Instr.sliceBounds true 0 0 clo chi none).run P w = .ok (0,0,0) w:=Ce (P:=P) (w:=w) (isS:=true) (cap:=0) h1 h2 hl' hh' (amp 0) (amp 0);refine ⟨.slice none 0 0, ?_,.Zo _ _ _ ⟨fun _ e=>(by cases e),fun _=>rfl,fun e=>(by cases e)⟩⟩;simp only [Instr.sliceAt,Sem.run_bind,Y5 hu,Result.andThen_ok,Instr.slice,hb,hszr,Sem.run_pure]
     first | rfl | simp
    rw [if_neg hnil]
    have key:∀ (base:Option Addr) (cap:Nat),cx = .slice base rows.length cap→rows.length≤cap→∃ m',(Instr.sliceBounds true rows.length cap clo chi cmx).run P w = .ok (l,hh,m') w∧m'≤cap∧hh≤m'∧(mx.isSome=true→m'=m):=by
     intro base cap _ hcap;cases h3 with
     |none=>exact ⟨cap,Ce (P:=P) (w:=w) (isS:=true) h1 h2 hl' hh' hc1 (by omega),amp _,by omega,fun h=>by cases h⟩
     |some a v hv=>
      have hsome:=hms rfl;exact ⟨m,UC (P:=P) (w:=w) (isS:=true) h1 h2 hsome hv hl' hh' hm' hc1 hc2 (by omega),by omega,hc2,fun _=>rfl⟩
    have fin:∀ (base:Option Addr) (cap:Nat),cx = .slice base rows.length cap→∀ m',(Instr.sliceBounds true rows.length cap clo chi cmx).run P w = .ok (l,hh,m') w →
      (Instr.sliceAt t cx clo chi cmx).run P w = .ok (.slice (if m'=l then base else base.map (·.add (l*sz))) (hh-l) (m'-l)) w:=by
     intro base cap e' m' hr;subst e';simp only [Instr.sliceAt,Sem.run_bind,Y5 hu,Result.andThen_ok,Instr.slice,hr,hszr,Sem.run_pure]
    have hempty:∀ (a:Option Addr) (cap':Nat),rows=[]→(mx.isSome=true∧m=hh→cap'=0)→V K (.slice (if mx.isSome=true∧m=hh then .full else .any) sz ((rows.drop l).take (hh-l))) (.slice a (hh-l) cap'):=by
     rintro a cap' rfl hz;have e0:hh-l=0:=by simp at hc3;omega
     simp only [List.drop_nil,List.take_nil,e0];split
     ·rename_i hc;rw [hz hc];exact .Zo _ _ _ ⟨fun _ e=>(by cases e),fun e=>(by cases e),fun e=>(by cases e)⟩
     ·exact .Zk .any _ _ _ (.inl rfl)
    cases hx with
    |Zo _ _ a _=>
     obtain ⟨m',e1,e2,e3,e4⟩:=key a 0 rfl (anC _);exact ⟨_,fin a 0 rfl m' e1,hempty _ _ rfl (fun _=>by omega)⟩
    |Zk _ _ a cap _=>
     obtain ⟨m',e1,e2,e3,e4⟩:=key a cap rfl (anC _);exact ⟨_,fin a cap rfl m' e1,hempty _ _ rfl (fun hc=>by have:=e4 hc.1;simp at hc3;omega)⟩
    |slice _ _ _ b o cap vs hl him hv hcap ht=>
     obtain ⟨m',e1,e2,e3,e4⟩:=key _ cap rfl hcap;refine ⟨_,fin _ cap rfl m' e1, ?_⟩
     by_cases hml:m'=l
     ·rw [if_pos hml]
      have e0:hh-l=0:=by omega
      simp only [e0,anU,hml,an1];split
      ·exact .Zo _ _ _ ⟨fun _ e=>(by cases e),fun e=>(by cases e),fun e=>(by cases e)⟩
      ·exact .Zk .any _ _ _ (.inl rfl)
     ·rw [if_neg hml]
      simp only [amO,iY];refine V.cut hl him hv hc1 (by omega) (by omega) ?_;split
      ·rename_i hc;exact .inr ⟨rfl,by have:=e4 hc.1;omega⟩
      ·exact .inl rfl
   ·cases h
  ·cases h
 ·rename_i e id off len esz room hu
  split at h
  ·rename_i l hh sz hl' hh' hsz
   split at h
   ·rename_i hc
    obtain ⟨rfl,hc1,hc2⟩:=hc;cases h;cases h3;have hszr:(sizeOf e).run P w = .ok sz w:=dU hsz;cases hx with
    |Za _ _ _ _ _ b cap hb hcap hro=>
     have hr:=Ce (P:=P) (w:=w) (isS:=true) (cap:=cap) h1 h2 hl' hh' (by omega) (by omega);refine ⟨.slice (some ⟨b,off+l*sz,none⟩) (hh-l) (cap-l), ?_,.Za _ _ _ _ _ _ _ hb (by omega) (fun e => ?_)⟩
     ·simp only [Instr.sliceAt,Sem.run_bind,Y5 hu,Result.andThen_ok,Instr.slice,hr,hszr,Sem.run_pure]
      by_cases hml:cap=l
      ·rw [if_pos hml]
       have:l=0:=by omega
       subst this;simp
      ·rw [if_neg hml]
       simp [iY]
     ·obtain ⟨n,e1,e2⟩:=hro e
      refine ⟨n,e1, ?_⟩
      have:(cap-l)*sz+l*sz=cap*sz:=by rw [← amT];congr 1;omega
      omega
   ·split at h
    ·rename_i hc
     obtain ⟨rfl,rfl,hc2⟩:=hc;cases h;cases h3;have hszr:(sizeOf e).run P w = .ok sz w:=dU hsz;cases hx with
     |Za _ _ _ _ _ b cap hb hcap hro=>
      have hr:=Ce (P:=P) (w:=w) (isS:=true) (cap:=cap) h1 h2 hl' hh' (by omega) (by omega)
      by_cases hml:cap=l
      ·refine ⟨.slice (some ⟨b,off,none⟩) (l-l) (cap-l), ?_, ?_⟩
       ·simp only [Instr.sliceAt,Sem.run_bind,Y5 hu,Result.andThen_ok,Instr.slice,hr,hszr,Sem.run_pure]
        rw [if_pos hml]
       ·rw [an1];exact .Zk .any _ _ _ (.inl rfl)
      ·refine ⟨.slice (some ⟨b,off+l*sz,none⟩) (l-l) (cap-l), ?_, ?_⟩
       ·simp only [Instr.sliceAt,Sem.run_bind,Y5 hu,Result.andThen_ok,Instr.slice,hr,hszr,Sem.run_pure]
        rw [if_neg hml];simp [iY]
       ·rw [an1];exact .Zk .any _ _ _ (.inl rfl)
    ·cases h
  ·cases h
 ·rename_i n e id off hu
  split at h
  ·rename_i l hh sz hl' hh' hsz
   split at h
   ·rename_i hc
    obtain ⟨hc1,hc2⟩:=hc;cases h;cases h3;have hszr:(sizeOf e).run P w = .ok sz w:=dU hsz;cases hx with
    |ptr _ _ b hb=>
     have hr:=Ce (P:=P) (w:=w) (isS:=false) (cap:=n) h1 h2 hl' hh' (aoH hc1) hc2;refine ⟨.slice (some ⟨b,off+l*sz,none⟩) (hh-l) (n-l), ?_,.Za _ _ _ _ _ _ _ hb (by omega) (fun e=>by cases e)⟩;simp only [Instr.sliceAt,Sem.run_bind,Y5 hu,Result.andThen_ok,Instr.sureAddr,hr,hszr,Sem.run_pure];rw [if_neg (by omega)];simp [iY]
   ·cases h
  ·cases h
 ·cases h
end
def HB(op:BinOp)(k:IntKind)(m:Int)(n:Int):Option AV:=
 if n<0 then none else
 match op with
 |.shl=>some (.int k (k.wrap (m*2 ^ (min n.toNat k.bits))))
 |.shr=>some (.int k (m.fdiv (2 ^ (min n.toNat k.bits))))
 |_=>none
def DC(P:Program)(op:BinOp)(t:TypeId)(x y:AV):Option AV:=
 match op,x,y with
 |.shl,.int k m,.int _ n=>HB .shl k m n
 |.shr,.int k m,.int _ n=>HB .shr k m n
 |.andNot,.int k m,.int k' n=>if k=k' then some (.int k (k.wrap (BitVec.ofInt k.bits m &&& ~~~ BitVec.ofInt k.bits n).toNat)) else none
 |op,x,y=>Bc P op t x y
def mB:Operand→Bool
 |.const _=>true
 |_=>false
def Bk(P:Program)(t:TypeId)(c:Bool)(x y:AV):Option Bool:=
 match P.underlying t,x,y with
 |some (.interface _),.Zr,.Zr=>if c then some true else none
 |some (.interface _),.Zr,.iface _ _=>some false
 |some (.interface _),.iface _ _,.Zr=>some false
 |_,_,_=>none
def sM(P:Program)(op:BinOp)(t:TypeId)(ox oy:Operand)(x y:AV):Option AV:=
 match op,Bk P t (mB ox||mB oy) x y with
 |.eql,some b=>some (.bool b)
 |.neq,some b=>some (.bool (!b))
 |op,_=>DC P op t x y
def zu(P:Program)(H:List Y4)(t:TypeId)(l c:AV):Option (AV×List Y4):=
 match P.underlying t,l,c with
 |some (.slice e),.int _ l,.int _ c=>match P.info? e with
  |some i=>match i.zero with
   |some z=>match dM (lH z) with
    |some cs=>if 0≤l∧l≤c∧c.toNat*i.bytes≤140737488355328∧c≤4611686018427387904∧cs.length=i.size then
      some (.Za H.length 0 l.toNat i.size true,H++[.cells (List.replicate c.toNat cs).flatten e])
     else none
    |none=>none
   |none=>none
  |none=>none
 |_,_,_=>none
def Mp(P:Program)(H:List Y4)(dT sT:TypeId)(d s:AV):Option (AV×List Y4):=
 match P.underlying dT with
 |some (.slice e)=>match iX P e with
  |some sz=>match d,NW P H sz sT s with
   |.Za id off len esz _,some rows=>match H[id]? with
    |some (.cells cs T)=>
     if esz=sz∧off+len*esz≤cs.length∧rows.length≤len∧rows.all (fun r=>r.length == sz&&r.all AV.cell)=true then
      some (.int .i64 rows.length,H.set id (.cells (bq cs off rows.flatten) T))
     else none
    |_=>none
   |_,_=>none
  |none=>none
 |_=>none
def RK(P:Program)(t:TypeId)(x:AV):Option AV:=
 match P.underlying t,x with
 |some (.slice _),.slice .full _ rows=>some (.int .i64 rows.length)
 |some (.slice _),.slice .nil _ rows=>some (.int .i64 rows.length)
 |some (.array n _),_=>some (.int .i64 n)
 |_,_=>none
def CT:List AV→Option (List UInt8)
 |[]=>some []
 |.int .u8 n::l=>(CT l).map (UInt8.ofNat n.toNat :: ·)
 |_=>none
def rF:List (List AV)→Option (List UInt8)
 |[]=>some []
 |[.int .u8 n]::l=>(rF l).map (UInt8.ofNat n.toNat :: ·)
 |_=>none
def HC(P:Program)(H:List Y4)(e:TypeId)(x:AV):Option AV:=
 match P.underlying e,x with
 |some (.int .u8),.slice _ _ rows=>(rF rows).map .str
 |some (.int .u8),.Za id off len 1 _=>match H[id]? with
  |some (.cells cs _)=>if off+len≤cs.length then (CT ((cs.drop off).take len)).map .str else none
  |_=>none
 |_,_=>none
def CU(b:ByteArray):Nat→Nat→List Int
 |0,_=>[]
 |n+1,i=>if i<b.size then Int.ofNat (Utf8.decode b i).1::CU b n (i+(Utf8.decode b i).2) else []
def kb(s:List UInt8):List Int:=CU ⟨s.toArray⟩ s.length 0
def aaz:List Int→List UInt8
 |[]=>[]
 |n::l=>(Utf8.encode n).data.toList++aaz l
def K8:List (List AV)→Option (List Int)
 |[]=>some []
 |[.int .i32 n]::l=>(K8 l).map (n :: ·)
 |_=>none
def qA(P:Program)(H:List Y4)(src dst:TypeId)(x:AV):Option AV:=
 match P.underlying src,P.underlying dst,x with
 |some (.slice e),some .string,x=>HC P H e x
 |some .string,some (.slice e),.str s=>match P.underlying e with
  |some (.int .u8)=>some (.slice .any 1 (s.map fun b=>[.int .u8 b.toNat]))
  |_=>none
 |_,_,_=>ym P src dst x
def mD:AV→AV→Option Bool
 |.int k a,.int k' b=>if k=k' then some (a == b) else none
 |.str a,.str b=>some (a == b)
 |.bool a,.bool b=>some (a == b)
 |_,_=>none
def pS(k:AV):List (AV×AV)→Nat→Option (Option (Nat×AV))
 |[],_=>some none
 |e::es,i=>match mD k e.1 with
  |some true=>some (some (i,e.2))
  |some false=>pS k es (i+1)
  |none=>none
def HD(P:Program)(kt:TypeId)(k:AV):Bool:=
 match P.underlying kt,k with
 |some (.int k),.int k' _=>k'=k
 |some .string,.str _=>true
 |some .bool,.bool _=>true
 |_,_=>false
def DD:List AV→List AV→Bool
 |[],[]=>true
 |x::xs,y::ys=>(match mD y x with | some b=>b | none=>false)&&DD xs ys
 |_,_=>false
def HE(P:Program)(fs:List Field)(xs ys:List AV):Option Bool:=
 match qy P xs ys fs with
 |some true=>if DD ys xs=true then some true else none
 |r=>r
def EM(P:Program)(fs:List Field)(xs:List AV):List (AV×AV)→Nat→Option (Option (Nat×AV))
 |[],_=>some none
 |e::es,i=>match e.1 with
  |.agg ys=>match HE P fs xs ys with
   |some true=>some (some (i,e.2))
   |some false=>EM P fs xs es (i+1)
   |none=>none
  |_=>none
def tU(P:Program)(xs:List AV)(f:Field):Bool:=
 !(f.name == "_")&&(match xs[f.offset]? with
  |some x=>(vL P f.type x x).isSome
  |none=>false)
def J4(P:Program)(kt:TypeId)(k:AV)(es:List (AV×AV)):Option (Option (Nat×AV)):=
 if HD P kt k=true then pS k es 0
 else match P.underlying kt,k with
  |some (.struct fs),.agg xs=>if P.stoodInHeld kt=false∧fs.toList.all (tU P xs)=true then EM P fs.toList xs es 0 else none
  |_,_=>none
def CV(H:List Y4):AV→Option (List (AV×AV))
 |.ZG=>some []
 |.Z2 es=>some es
 |.map id=>match H[id]? with
  |some (.map es)=>some es
  |_=>none
 |_=>none
def G7(P:Program)(H:List Y4)(t:TypeId)(x k:AV)(ok:Bool):Option AV:=
 match P.underlying t with
 |some (.map kt et)=>
   match CV H x with
   |some es=>match J4 P kt k es with
    |some (some (_,v))=>some (if ok then .tuple [v,.bool true] else v)
    |some none=>match P.info? et with
     |some i=>match i.zero with
      |some z=>some (if ok then .tuple [lH z,.bool false] else lH z)
      |none=>none
     |none=>none
    |none=>none
   |none=>none
 |_=>none
def tV(P:Program)(H:List Y4)(t:TypeId)(m k v:AV):Option (List Y4):=
 match P.underlying t,m with
 |some (.map kt _),.map id=>
   match H[id]? with
   |some (.map es)=>match J4 P kt k es with
    |some (some (i,_))=>some (H.set id (.map (es.set i (k,v))))
    |some none=>some (H.set id (.map (es++[(k,v)])))
    |none=>none
   |_=>none
 |_,_=>none
section
variable{P:Program}{K:aC}{H:List Y4}{w:World}
theorem Jt{op:BinOp}{t:TypeId}{x y v:AV}{cx cy:Value}(hx:V K x cx)(hy:V K y cy)(h:DC P op t x y=some v)(ox oy:Operand) :
  ∃ cv,(do eqGuard op t ox oy cx cy;binOp op t cx cy:Sem Value).run P w = .ok cv w∧V K v cv:=by
 unfold DC at h;split at h
 ·cases hx;cases hy
  unfold HB at h;split at h
  ·cases h
  ·rename_i hn
   cases h;exact ⟨_,by simp [eqGuard,binOp,Op.shift,hn],.int _ _⟩
 ·cases hx;cases hy
  unfold HB at h;split at h
  ·cases h
  ·rename_i hn
   cases h;exact ⟨_,by simp [eqGuard,binOp,Op.shift,hn],.int _ _⟩
 ·cases hx;cases hy
  split at h
  ·rename_i e;subst e
   cases h;exact ⟨_,by simp [eqGuard,binOp,Op.intBits],.int _ _⟩
  ·cases h
 ·exact KZ hx hy h ox oy
theorem YU{t:TypeId}{ms:Array (String×TypeId)}(hu:P.underlying t=some (.interface ms))(d:Nat):(Op.equalIn (d+1) t .nilIface .nilIface).run P w = .ok true w:=by
 simp only [Op.equalIn,Sem.run_bind,Y5 hu,Result.andThen_ok];rfl
theorem YV{t:TypeId}{ms:Array (String×TypeId)}(hu:P.underlying t=some (.interface ms))(d:Nat)(t':TypeId)(x:Value):(Op.equalIn (d+1) t .nilIface (.iface t' x)).run P w = .ok false w:=by
 simp only [Op.equalIn,Sem.run_bind,Y5 hu,Result.andThen_ok];rfl
theorem YW{t:TypeId}{ms:Array (String×TypeId)}(hu:P.underlying t=some (.interface ms))(d:Nat)(t':TypeId)(x:Value):(Op.equalIn (d+1) t (.iface t' x) .nilIface).run P w = .ok false w:=by
 simp only [Op.equalIn,Sem.run_bind,Y5 hu,Result.andThen_ok];rfl
theorem Ju{op:BinOp}{t:TypeId}{ox oy:Operand}{x y v:AV}{cx cy:Value}(hx:V K x cx)(hy:V K y cy)(h:sM P op t ox oy x y=some v) :
  ∃ cv,(do eqGuard op t ox oy cx cy;binOp op t cx cy:Sem Value).run P w = .ok cv w∧V K v cv:=by
 have key:∀ b,Bk P t (mB ox||mB oy) x y=some b→(eqGuard .eql t ox oy cx cy).run P w = .ok () w∧(eqGuard .neq t ox oy cx cy).run P w = .ok () w∧(Op.equal t cx cy).run P w = .ok b w ∧
   (binOp .eql t cx cy=do pure (.bool (← Op.equal t cx cy)))∧(binOp .neq t cx cy=do pure (.bool (!(← Op.equal t cx cy)))):=by
  intro b hb;unfold Bk at hb;split at hb
  ·rename_i ms hu
   split at hb
   ·rename_i hc
    cases hb;cases hx;cases hy
    have hg:∀ op:BinOp,(eqGuard op t ox oy .nilIface .nilIface).run P w = .ok () w:=fun op=>by
     unfold eqGuard;simp only [anN] at hc;rcases hc with hc | hc
     ·cases ox<;>simp [mB] at hc
      cases op<;>simp
     ·cases oy<;>simp [mB] at hc
      cases op<;>cases ox<;>simp
    exact ⟨hg _,hg _,YU hu 9999,rfl,rfl⟩
   ·cases hb
  ·rename_i ms t' v' hu
   cases hb;cases hx;obtain ⟨z,rfl,_⟩:∃ z,cy = .iface t' z∧V K v' z:=by cases hy with | iface _ _ z hz=>exact ⟨z,rfl,hz⟩
   exact ⟨by simp [eqGuard],by simp [eqGuard],YV hu 9999 _ _,rfl,rfl⟩
  ·rename_i ms t' v' hu
   cases hb;cases hy;obtain ⟨z,rfl,_⟩:∃ z,cx = .iface t' z∧V K v' z:=by cases hx with | iface _ _ z hz=>exact ⟨z,rfl,hz⟩
   exact ⟨by simp [eqGuard],by simp [eqGuard],YW hu 9999 _ _,rfl,rfl⟩
  ·cases hb
 unfold sM at h;split at h
 ·rename_i b hb
  cases h;obtain ⟨h1,_,h3,h4,_⟩:=key b hb;exact ⟨.bool b,by simp only [Sem.run_bind,h1,Result.andThen_ok,h4,h3,Sem.run_pure],.bool b⟩
 ·rename_i b hb
  cases h;obtain ⟨_,h2,h3,_,h5⟩:=key b hb;exact ⟨.bool (!b),by simp only [Sem.run_bind,h2,Result.andThen_ok,h5,h3,Sem.run_pure],.bool _⟩
 ·exact Jt hx hy h ox oy
theorem N0{t:TypeId}{x v:AV}{cx:Value}(hx:V K x cx)(h:RK P t x=some v)(ty:TypeId):∃ cv,(Builtin.cap_ #[t] ty #[cx]).run P w = .ok cv w∧V K v cv:=by
 unfold RK at h;split at h
 ·rename_i e esz rows hu
  cases h;cases hx with
  |Zk _ _ _ _ e=>simp at e
  |Zo _ _ a _=>exact ⟨goInt 0,by simp [Builtin.cap_,Y5 hu],.int _ _⟩
  |slice _ _ _ b o cap vs hl hi hv hc ht=>
   have:cap=rows.length:=ht
   subst this;exact ⟨goInt rows.length,by simp [Builtin.cap_,Y5 hu],.int _ _⟩
 ·rename_i e esz rows hu
  cases h;cases hx with
  |Zk _ _ _ _ e=>simp at e
  |Zo _ _ a _=>exact ⟨goInt 0,by simp [Builtin.cap_,Y5 hu],.int _ _⟩
  |slice _ _ _ b o cap vs hl hi hv hc ht=>exact (ht:False).elim
 ·rename_i n e hu
  cases h;exact ⟨goInt n,by simp [Builtin.cap_,Y5 hu],.int _ _⟩
 ·cases h
theorem EO(hi:Inv K H w){t:TypeId}{l c v:AV}{cl cc:Value}{H':List Y4}(hl:V K l cl)(hc:V K c cc)(h:zu P H t l c=some (v,H')) :
  ∃ K' cv w',K.le K'∧(Instr.makeSlice t cl cc).run P w = .ok cv w'∧V K' v cv∧Inv K' H' w':=by
 unfold zu at h;split at h<;>try (cases h;done)
 rename_i e kl l' kc c' hu;split at h<;>try (cases h;done)
 rename_i i hinfo;split at h<;>try (cases h;done)
 rename_i z hz;split at h<;>try (cases h;done)
 rename_i cs hcs;split at h<;>try (cases h;done)
 rename_i hh;obtain ⟨h1,h2,h3,h4,h5⟩:=hh;cases h;cases hl;cases hc;have hvs:Vs K cs z.cells:=(ri K z).cells hcs;have hc0:(c'.toNat:Int)=c':=Int.toNat_of_nonneg (by omega)
 have hrun:=run_make (P:=P) w t e i z hu hinfo hz kl kc l' c' h1 h2 (by
  have:((c'.toNat*i.bytes:Nat):Int)≤140737488355328:=by omega
  rw [Int.natCast_mul,hc0,Int.mul_comm] at this;omega) (by omega)
 generalize hvs':madeCells z.cells (c'.toNat*i.size)=vs at hrun;have hsz:vs.size=c'.toNat*i.size:=by rw [← hvs',size_madeCells]
 have hflat:(List.replicate c'.toNat cs).flatten.length=c'.toNat*i.size:=by rw [ao8];simp [h5]
 have hget:∀ (k:Nat) (av:AV),(List.replicate c'.toNat cs).flatten[k]?=some av→V K av (vs.getD k undef):=fun k av hk=>by
  have hrow:∀ r,r∈List.replicate c'.toNat cs→r.length=i.size:=fun r hr=>by rw [(an2.1 hr).2];exact h5
  obtain ⟨p,q,r,g1,g2,rfl⟩:=Bd hrow hk
  have hr:r=cs:=by
   have:=aml g1;exact (an2.1 this).2
  subst hr;have hq:q<i.size:=by rw [← h5];exact (al3.1 g2).1
  have hp:p<c'.toNat:=by have:=(al3.1 g1).1;simpa using this
  obtain ⟨x,x1,x2⟩:=hvs.get g2;have hzs:z.cells.size=i.size:=by rw [← hvs.size];exact h5
  have hlt:p*i.size+q<c'.toNat*i.size:=by
   have:(p+1)*i.size≤c'.toNat*i.size:=amR _ hp
   rw [amT] at this;omega
  have:vs[p*i.size+q]?=some x:=by
   rw [← hvs',madeCells,hzs];simp only [apd,ao5,hlt,if_true,amO];rw [aob,aoW,aoy hq];rw [getElem!_def,x1]
  rw [pF this];exact x2
 have hal:=hi.aaU (.cells (List.replicate c'.toNat cs).flatten e) (.cells vs e) rfl (some (.rows vs.size)) (fun s h=>by cases h;exact ⟨vs,e,(0,0),by rw [heap_alloc,if_pos rfl],rfl⟩) fun w' hw' g1 g2=>
  ⟨w.heap.size,vs,e,by simp [aC.ZJ],hi.new,hw',by rw [hflat,hsz];exact amp _,fun k av hk=>(hget k av hk).mono (K.aal _ _ hi.ZZ),g1,g2,by simp [aC.ZJ],rfl⟩
 refine ⟨K.ZJ w.heap.size (some (.rows vs.size)),_,_,K.aal _ _ hi.ZZ,hrun, ?_,hal⟩;exact .Za _ _ _ _ _ _ _ (by simp [aC.ZJ,← hi.len]) (by omega) (fun _=>⟨vs.size,by simp [aC.ZJ],by rw [hsz];omega⟩)
theorem Mq(hi:Inv K H w){dT sT:TypeId}{d s v:AV}{cd cs:Value}{H':List Y4}(hd:V K d cd)(hs:V K s cs)(h:Mp P H dT sT d s=some (v,H'))(ty:TypeId) :
  ∃ K' cv w',K.le K'∧(Builtin.copy_ #[dT,sT] ty #[cd,cs]).run P w = .ok cv w'∧V K' v cv∧Inv K' H' w':=by
 unfold Mp at h;split at h<;>try (cases h;done)
 rename_i e hu;split at h<;>try (cases h;done)
 rename_i sz hsz;split at h<;>try (cases h;done)
 rename_i id off len esz room rows hsrc;split at h<;>try (cases h;done)
 rename_i old T hold;split at h<;>try (cases h;done)
 rename_i hh;obtain ⟨rfl,h1,h2,h3⟩:=hh;cases h;obtain ⟨l,hf,hS⟩:=CS hi hs hsrc h3;obtain ⟨hfl,hfc⟩:=hf.cells;cases hd with
 |Za _ _ _ _ _ b cap hb hcap hro=>
  obtain ⟨b',vs,T',g1,g2,g3,g4,g5,g6,g7,g8⟩:=hi.obj id _ hold;rw [hb] at g1;cases g1;have hszr:(sizeOf e).run P w = .ok esz w:=dU hsz;have hle:rows.length*esz≤len*esz:=amR _ h2
  have hst:=run_storeCells_cells (P:=P) b off l 0 w (fun j hj=>by
   rw [ann,de g3];have:=hf.len;simp;omega) (fun j hj=>by simp [World.frozen?,g3]) hS.one
  have hn:Nat.min rows.length len=rows.length:=aoZ h2;refine ⟨K,goInt rows.length,w.setCells b off l,.refl K, ?_,.int _ _, ?_⟩
  ·simp only [ann] at hst
   simp [Builtin.copy_,Y5 hu,hS.len,hn,hszr,hS.cells,hst]
  ·exact Inv.adH hb rows.flatten l off H w old T hi hold hfl (by rw [hfl,hf.len];omega) hfc
end
section
variable{P:Program}{K:aC}{H:List Y4}{w:World}
theorem HF:∀ {cs:List AV}{s:List UInt8},CT cs=some s→s.length=cs.length∧∀ (i:Nat),i<cs.length→∃ n:Int,cs[i]?=some (.int .u8 n)∧s[i]?=some (UInt8.ofNat n.toNat)
 |[],s,h=>by cases h;exact ⟨rfl,fun i hi=>by simp at hi⟩
 |c::cs,s,h=>by
  cases c<;>try (simp [CT] at h;done)
  rename_i k n;cases k<;>try (simp [CT] at h;done)
  simp only [CT,amn] at h;obtain ⟨s',h1,rfl⟩:=h;obtain ⟨h2,h3⟩:=HF h1;refine ⟨by simp [h2],fun i hi => ?_⟩;cases i with
  |zero=>exact ⟨n,rfl,rfl⟩
  |succ i=>simpa using h3 i (by simpa using hi)
theorem Bl:∀ {rows:List (List AV)}{s:List UInt8},rF rows=some s→s.length=rows.length∧∀ (i:Nat),i<rows.length→∃ n:Int,rows[i]?=some [.int .u8 n]∧s[i]?=some (UInt8.ofNat n.toNat)
 |[],s,h=>by cases h;exact ⟨rfl,fun i hi=>by simp at hi⟩
 |r::rows,s,h=>by
  match r with
  |[]=>simp [rF] at h
  |c::d::t=>cases c<;>simp [rF] at h
  |[c]=>
   cases c<;>try (simp [rF] at h;done)
   rename_i k n;cases k<;>try (simp [rF] at h;done)
   simp only [rF,amn] at h;obtain ⟨s',h1,rfl⟩:=h;obtain ⟨h2,h3⟩:=Bl h1;refine ⟨by simp [h2],fun i hi => ?_⟩;cases i with
   |zero=>exact ⟨n,rfl,rfl⟩
   |succ i=>simpa using h3 i (by simpa using hi)
theorem DE{src dst e:TypeId}(hs:P.underlying src=some (.slice e))(he:P.underlying e=some (.int .u8))(hd:P.underlying dst=some .string)(b off cap:Nat)(s:List UInt8)(n:Nat)(hn:s.length=n)
  (hc:∀ i,i<n→∃ m:Int,w.cell? ⟨b,off+i,none⟩=some (.int .u8 m)∧s[i]?=some (UInt8.ofNat m.toNat)) :
  (convert src dst (.slice (some ⟨b,off,none⟩) n cap)).run P w = .ok (.string ⟨s.toArray⟩) w:=by
 have hex:∃ xs:List Int,xs.length=n∧∀ i,i<n→w.cell? ⟨b,off+i,none⟩=some (.int .u8 (xs.getD i 0))∧s[i]?=some (UInt8.ofNat (xs.getD i 0).toNat):=by
  let f:Nat→Int:=fun i=>if h:i<n then Classical.choose (hc i h) else 0
  have hf:∀ i,i<n→w.cell? ⟨b,off+i,none⟩=some (.int .u8 (f i))∧s[i]?=some (UInt8.ofNat (f i).toNat):=fun i h=>by
   have:=anh (hc i h);simp only [f,dif_pos h];exact this
  refine ⟨(List.range n).map f,by simp,fun i h => ?_⟩
  have:((List.range n).map f).getD i 0=f i:=by simp [List.getD,aoB h]
  rw [this];exact hf i h
 obtain ⟨xs,hx,hxs⟩:=hex;have:=run_convert_bytes_arg (P:=P) w src e hs he b off n cap xs hx (fun i h=>(hxs i h).1) dst hd;rw [this]
 have hs':s=xs.map fun n=>UInt8.ofNat n.toNat:=by
  apply an5;intro i
  by_cases h:i<n
  ·rw [(hxs i h).2]
   simp [List.getD,hx,h]
  ·rw [am0 (by omega),am0 (by simp;omega)]
 rw [hs'];rfl
theorem Gp(hi:Inv K H w){src dst:TypeId}{x v:AV}{cx:Value}(hx:V K x cx)(h:qA P H src dst x=some v) :
  ∃ K' cv w',K.le K'∧(convert src dst cx).run P w = .ok cv w'∧V K' v cv∧Inv K' H w':=by
 unfold qA at h;split at h
 ·rename_i e hs hd
  unfold HC at h;split at h
  ·rename_i tag esz rows he
   rw [amn] at h;obtain ⟨s,h1,rfl⟩:=h;obtain ⟨h2,h3⟩:=Bl h1
   have hnil:∀ (a:Option Addr) (cap:Nat),rows=[]→∃ K' cv w',K.le K'∧(convert src dst (.slice a 0 cap)).run P w = .ok cv w'∧V K' (.str s) cv∧Inv K' H w':=by
    intro a cap e0;have hs0:s=[]:=by rw [e0] at h2;exact aoT.1 h2
    subst hs0;cases a with
    |none=>exact ⟨K,_,w,.refl K,run_convert_bytes_nil w src e hs he 0 cap dst hd,.str [],hi⟩
    |some a=>exact ⟨K,_,w,.refl K,run_convert_bytes_back w src dst e a cap [] hs he hd (fun j hj=>by simp at hj),.str [],hi⟩
   cases hx with
   |Zo _ _ a _=>exact hnil a 0 rfl
   |Zk _ _ a cap _=>exact hnil a cap rfl
   |slice _ _ _ b o cap vs hl him hv hc ht=>
    refine ⟨K,_,w,.refl K,DE (P:=P) hs he hd b o cap s rows.length h2 (fun i hil => ?_),.str s,hi⟩;obtain ⟨n,e1,e2⟩:=h3 i hil;have hesz:esz=1:=(hl _ (zt e1)).symm;subst hesz;have g1:=hi.ZO _ _ _ (him i 0 _ _ e1 rfl);have g2:=hv i 0 _ _ e1 rfl;rw [aod,ann] at g1;generalize hvs:vs i 0=x at g1 g2;cases g2;exact ⟨n,g1,e2⟩
  ·rename_i id off len room he
   split at h
   ·rename_i cs T hcs
    split at h
    ·rename_i hle
     rw [amn] at h;obtain ⟨s,h1,rfl⟩:=h;obtain ⟨h2,h3⟩:=HF h1;have hlen:((cs.drop off).take len).length=len:=by simp;omega
     cases hx with
     |Za _ _ _ _ _ b cap hb hc hro=>
      obtain ⟨b',vs,T',g1,g2,g3,g4,g5,g6,g7,g8⟩:=hi.obj id _ hcs;rw [hb] at g1;cases g1;refine ⟨K,_,w,.refl K,DE (P:=P) hs he hd b off cap s len (h2.trans hlen) (fun i hil => ?_),.str s,hi⟩;obtain ⟨n,e1,e2⟩:=h3 i (by omega);rw [amE,if_pos hil,amM] at e1;have hlt:off+i<vs.size:=by omega
      have hv:=g5 (off+i) _ e1;rw [pF (amz hlt)] at hv;refine ⟨n, ?_,e2⟩;rw [de g3,amz hlt];generalize vs[off+i]=x at hv;cases hv;rfl
    ·cases h
   ·cases h
  ·cases h
 ·rename_i e s hs hd
  split at h
  ·rename_i he
   cases h;cases hx;have hrun:=run_bytes_of_string (P:=P) w src dst e ⟨s.toArray⟩ hs hd he;have hsz:(ByteArray.mk s.toArray).size=s.length:=by simp [ByteArray.size]
   generalize hcap:grownCap w (ByteArray.mk s.toArray).size 0 e=cap at hrun;have hge:s.length≤cap:=by rw [← hcap,hsz];exact sK _ _ _ _
   have hal:=hi.drew.ada (bytesRow ⟨s.toArray⟩ cap) e ((bytesRow ⟨s.toArray⟩ cap).size,(bytesRow ⟨s.toArray⟩ cap).size+1);have hle:K.le (K.ext w.drew.heap.size ((bytesRow ⟨s.toArray⟩ cap)[·]?)):=K.abL _ _ hi.drew.new fun o v h=>by rw [hi.drew.aa3 o] at h;cases h
   refine ⟨_,_,_,hle,hrun, ?_,hal⟩;rw [hsz]
   have hrow:∀ (i:Nat) (c:UInt8),s[i]?=some c→(bytesRow ⟨s.toArray⟩ cap)[i]?=some (.int .u8 c.toNat):=fun i c hc=>by
    have hil:=(al3.1 hc).1;have hci:s[i]=c:=(al3.1 hc).2;simp [bytesRow,ao0,hil,hci]
   have:=V.slice (K:=K.ext w.drew.heap.size ((bytesRow ⟨s.toArray⟩ cap)[·]?)) .any 1 (s.map fun b=>[.int .u8 b.toNat]) w.heap.size 0 cap (fun i _=>.int .u8 ((s.getD i 0).toNat)) (fun r hr=>by
     obtain ⟨c,_,rfl⟩:=anD.1 hr;rfl) (fun i j r av h1 h2=>by
     rw [amK,amn] at h1;obtain ⟨c,h3,rfl⟩:=h1;cases j with
     |succ j=>simp at h2
     |zero=>
      have e1:s.getD i 0=c:=by simp [List.getD,h3]
      rw [e1];exact aC.abN (by simpa using hrow i c h3)) (fun i j r av h1 h2=>by
     rw [amK,amn] at h1;obtain ⟨c,h3,rfl⟩:=h1;cases j with
     |succ j=>simp at h2
     |zero=>
      simp at h2;subst h2;have e1:s.getD i 0=c:=by simp [List.getD,h3]
      rw [e1];exact .int _ _) (by simpa using hge) trivial
   simpa using this
  ·cases h
 ·obtain ⟨cv,h1,h2⟩:=HA (P:=P) (w:=w) hx h
  exact ⟨K,cv,w,.refl K,h1,h2,hi⟩
end
section
open Go.MapKept
section
variable{P:Program}{K:aC}{H:List Y4}{w:World}
structure Es (K:aC) (es:List (AV×AV)) (mes:Array MapEntry):Prop where
 size:es.length=mes.size
 at_:∀ (i:Nat) (k v:AV),es[i]?=some (k,v)→∃ e:MapEntry,mes[i]?=some e∧V K k e.key∧V K v e.val
theorem wh{k k':AV}{ck ck':Value}{b:Bool}{d:TypeDesc}(hk:V K k ck)(hk':V K k' ck')(h:mD k k'=some b)(hd:(match d with | .int _ | .string | .bool=>true | _=>false)=true)
  (hi:IsKey d ck):Instr.sameNow d ck ck'=some b:=by
 unfold mD at h;split at h
 ·cases hk;cases hk'
  split at h
  ·rename_i e;subst e
   cases h;cases d<;>simp at hd<;>simp [IsKey] at hi
   simp [Instr.sameNow]
  ·cases h
 ·rename_i a b'
  cases h;cases hk;cases hk';cases d<;>simp at hd<;>simp [IsKey] at hi
  simp only [Instr.sameNow,amo];refine anw.2 ?_;rw [bytes_beq];simp
 ·cases h;cases hk;cases hk'
  cases d<;>simp at hd<;>simp [IsKey] at hi
  simp [Instr.sameNow]
 ·cases h
theorem Bm{k:AV}{ck:Value}{d:TypeDesc}(hk:V K k ck)(hd:(match d with | .int _ | .string | .bool=>true | _=>false)=true)(hi:IsKey d ck) :
  ∀ (es:List (AV×AV)) (l:List MapEntry) (n:Nat) (r:Option (Nat×AV)),es.length=l.length→(∀ (i:Nat) (x y:AV),es[i]?=some (x,y)→∃ e:MapEntry,l[i]?=some e∧V K x e.key∧V K y e.val)→pS k es n=some r →
   (r=none∧Instr.findNow d ck l n=some none)∨∃ (j:Nat) (v:AV) (e:MapEntry),r=some (n+j,v)∧Instr.findNow d ck l n=some (some (n+j,e.val))∧l[j]?=some e∧V K v e.val∧(∃ x,es[j]?=some (x,v)∧mD k x=some true)
 |[],l,n,r,hl,_,h=>by
  cases l with
  |nil=>cases h;exact .inl ⟨rfl,rfl⟩
  |cons=>cases hl
 |(x,y)::es,l,n,r,hl,hv,h=>by
  cases l with
  |nil=>cases hl
  |cons e l=>
   obtain ⟨e',he,hx,hy⟩:=hv 0 x y rfl;simp at he;subst he;rw [pS] at h;split at h
   ·rename_i hs
    cases h;exact .inr ⟨0,y,e,rfl,by simp [Instr.findNow,wh hk hx hs hd hi],rfl,hy,x,rfl,hs⟩
   ·rename_i hs
    rcases Bm hk hd hi es l (n+1) r (by simpa using hl) (fun i x y h=>by simpa using hv (i+1) x y (by simpa using h)) h with ⟨h1,h2⟩ | ⟨j,v,e2,h1,h2,h3,h4,h5⟩
    ·exact .inl ⟨h1,by simp [Instr.findNow,wh hk hx hs hd hi,h2]⟩
    ·refine .inr ⟨j+1,v,e2,by rw [h1];congr 2;omega, ?_,by simpa using h3,h4,by simpa using h5⟩
     simp only [Instr.findNow,wh hk hx hs hd hi,h2];congr 3;omega
   ·cases h
theorem Mr{kt:TypeId}{k:AV}{ck:Value}(hk:V K k ck)(h:HD P kt k=true):∃ d,P.underlying kt=some d∧(match d with | .int _ | .string | .bool=>true | _=>false)=true∧IsKey d ck:=by
 unfold HD at h;split at h
 ·rename_i k0 k1 n hu
  cases hk;exact ⟨_,hu,rfl,by simpa [IsKey] using h⟩
 ·rename_i s hu;cases hk;exact ⟨_,hu,rfl,trivial⟩
 ·rename_i b hu;cases hk;exact ⟨_,hu,rfl,trivial⟩
 ·cases h
theorem Jv{k k':AV}{ck ck':Value}(hk:V K k ck)(hk':V K k' ck')(h:mD k k'=some true):Instr.sameBits 10000 ck' ck=true:=by
 unfold mD at h;split at h
 ·cases hk;cases hk'
  split at h
  ·rename_i e;subst e
   simp only [amo,amU] at h;subst h;simp [Instr.sameBits]
  ·cases h
 ·cases hk;cases hk'
  simp only [amo,amU] at h;subst h;simp only [Instr.sameBits];rw [bytes_beq]
 ·cases hk;cases hk'
  simp only [amo,amU] at h;subst h;simp [Instr.sameBits]
 ·cases h
theorem HG{k k':AV}{ck ck':Value}(hk:V K k ck)(hk':V K k' ck')(h:mD k k'=some true):Instr.sameBits 9999 ck' ck=true:=by
 unfold mD at h;split at h
 ·cases hk;cases hk'
  split at h
  ·rename_i e;subst e
   simp only [amo,amU] at h;subst h;simp [Instr.sameBits]
  ·cases h
 ·cases hk;cases hk'
  simp only [amo,amU] at h;subst h;simp only [Instr.sameBits];rw [bytes_beq]
 ·cases hk;cases hk'
  simp only [amo,amU] at h;subst h;simp [Instr.sameBits]
 ·cases h
theorem Jw{P:Program}{w:World}{kt:TypeId}{q k:IntKind}{n:Int}(hd:P.underlying kt=some (.int q))(e:Bool)(m:Nat):(Instr.checkKey e (m+1) kt (.int k n)).run P w = .ok () w:=by
 unfold Instr.checkKey;simp only [Sem.run_bind,Y5 hd,Result.andThen];rfl
theorem K9{ys xs:List AV}:∀ {us vs:List Value},ys.length=us.length→xs.length=vs.length→(∀ (i:Nat) (y:AV) (u:Value),ys[i]?=some y→us[i]?=some u→V K y u)→(∀ (i:Nat) (x:AV) (v:Value),xs[i]?=some x→vs[i]?=some v→V K x v)→DD ys xs=true →
  us.length=vs.length∧((us.zip vs).all fun (x,y)=>Instr.sameBits 9999 x y)=true:=by
 induction ys generalizing xs with
 |nil=>
  intro us vs h1 h2 _ _ h;cases xs with
  |nil=>
   cases us with
   |nil=>cases vs with
    |nil=>exact ⟨rfl,rfl⟩
    |cons=>cases h2
   |cons=>cases h1
  |cons=>cases h
 |cons y ys ih=>
  intro us vs h1 h2 h3 h4 h;cases xs with
  |nil=>cases h
  |cons x xs=>
   cases us with
   |nil=>cases h1
   |cons u us=>
    cases vs with
    |nil=>cases h2
    |cons v vs=>
     simp only [DD,amb] at h
     have hk:mD x y=some true:=by
      cases hs:mD x y with
      |none=>rw [hs] at h;cases h.1
      |some b=>rw [hs] at h;simp only at h;rw [h.1]
     obtain ⟨g1,g2⟩:=ih (by simpa using h1) (by simpa using h2) (fun i a b ha hb=>h3 (i+1) a b (by simpa using ha) (by simpa using hb)) (fun i a b ha hb=>h4 (i+1) a b (by simpa using ha) (by simpa using hb)) h.2;refine ⟨by simp [g1], ?_⟩;simp only [List.zip_cons_cons,anq,amb];exact ⟨HG (h4 0 x v rfl rfl) (h3 0 y u rfl rfl) hk,g2⟩
theorem FX{xs:List AV}{vs:Array Value}(hx:Vs K xs vs)(em:Bool):∀ (L:List Field),(∀ f∈L,tU P xs f=true) →
  (forIn L PUnit.unit (fun f _=>(if f.name≠"_" then do
    let x ← part f.type vs f.offset
    Instr.checkKey em 9999 f.type x
    pure (ForInStep.yield PUnit.unit)
   else pure (ForInStep.yield PUnit.unit):Sem (ForInStep PUnit)))).run P w = .ok PUnit.unit w
 |[],_=>by simp
 |f::L,h=>by
  have hf:=h f (by simp);unfold tU at hf;simp only [amb,aoP,amg] at hf;obtain ⟨hn,hf⟩:=hf;split at hf
  ·rename_i x hxo
   obtain ⟨c,h3,h4⟩:=hx.get hxo;cases hc:vL P f.type x x with
   |none=>rw [hc] at hf;cases hf
   |some b=>
    obtain ⟨h7,h8⟩:=CE (w:=w) h4 h4 hc 0;have hp1:(part f.type vs f.offset).run P w = .ok c w:=by simp [part,sf h8,h3]
    have hck:(Instr.checkKey em 9999 f.type c).run P w = .ok () w:=by
     unfold vL at hc;split at hc
     ·rename_i hu _;cases h4;exact run_checkKey hu (by simp [IsKey]) em 9998
     ·rename_i hu _;cases h4
      split at hc
      ·exact Jw hu em 9998
      ·cases hc
     ·rename_i hu _;cases h4;exact run_checkKey hu (by simp [IsKey]) em 9998
     ·cases hc
    simp only [List.forIn_cons,Sem.run_bind,hn,ne_eq,not_false_eq_true,if_true,Result.andThen_ok,hp1,hck,Sem.run_pure];exact FX hx em L (fun g hg=>h g (by simp [hg]))
  ·cases hf
theorem DF{kt:TypeId}{fs:Array Field}(hu:P.underlying kt=some (.struct fs))(hst:P.stoodInHeld kt=false){xs:List AV}{vs:Array Value}(hvs:Vs K xs vs) :
  ∀ (es:List (AV×AV)) (l:List MapEntry) (n:Nat) (r:Option (Nat×AV)),es.length=l.length→(∀ (i:Nat) (x y:AV),es[i]?=some (x,y)→∃ e:MapEntry,l[i]?=some e∧V K x e.key∧V K y e.val)→EM P fs.toList xs es n=some r →
   (r=none∧(Instr.findAsking kt (.agg vs) l n).run P w = .ok none w)∨∃ (j:Nat) (v:AV) (e:MapEntry),r=some (n+j,v)∧(Instr.findAsking kt (.agg vs) l n).run P w = .ok (some (n+j,e.val)) w∧l[j]?=some e∧V K v e.val∧(∃ x,es[j]?=some (x,v)∧Instr.sameBits 10000 e.key (.agg vs)=true)
 |[],l,n,r,hl,_,h=>by
  cases l with
  |nil=>cases h;exact .inl ⟨rfl,by simp [Instr.findAsking]⟩
  |cons=>cases hl
 |(x,y)::es,l,n,r,hl,hv,h=>by
  cases l with
  |nil=>cases hl
  |cons e l=>
   obtain ⟨e',he,hx,hy⟩:=hv 0 x y rfl;simp at he;subst he;unfold EM at h;simp only at h;split at h
   ·rename_i ys
    obtain ⟨us,hke,hus⟩:=hx.aa1;have hfo:P.fieldsOf kt=fs:=by simp [Program.fieldsOf,hu]
    have heq:∀ b,qy P xs ys fs.toList=some b→(Op.equal kt (.agg vs) e.key).run P w = .ok b w:=fun b hb=>by
     rw [hke];show (Op.equalIn (9999+1) kt (.agg vs) (.agg us)).run P w=_;rw [run_equalIn_agg w 9999 kt vs us (by rw [hfo];exact hu) hst,hfo];exact uZ hvs hus 9998 fs.toList b hb
    split at h
    ·rename_i hs
     cases h;unfold HE at hs;split at hs
     ·rename_i hb
      split at hs
      ·rename_i hce
       refine .inr ⟨0,y,e,rfl,by simp [Instr.findAsking,heq true hb],rfl,hy,.agg ys,rfl, ?_⟩;rw [hke];have:=K9 (K:=K) (us:=us.toList) (vs:=vs.toList) (by simpa using hus.size) (by simpa using hvs.size) (fun i a b ha hb => ?_) (fun i a b ha hb => ?_) hce
       ·simp only [Instr.sameBits,amb,amU]
        exact ⟨by simpa using this.1,this.2⟩
       ·have h1:=hus.at_ i a ha
        rw [amd,show us[i]?=some b by simpa using hb] at h1;exact h1
       ·have h1:=hvs.at_ i a ha
        rw [amd,show vs[i]?=some b by simpa using hb] at h1;exact h1
      ·cases hs
     ·rename_i hne
      exact absurd hs hne
    ·rename_i hs
     have hb:qy P xs ys fs.toList=some false:=by
      unfold HE at hs;split at hs
      ·split at hs<;>cases hs
      ·exact hs
     rcases DF hu hst hvs es l (n+1) r (by simpa using hl) (fun i x y h=>by simpa using hv (i+1) x y (by simpa using h)) h with ⟨h1,h2⟩ | ⟨j,v,e2,h1,h2,h3,h4,h5⟩
     ·exact .inl ⟨h1,by simp [Instr.findAsking,heq false hb,h2]⟩
     ·refine .inr ⟨j+1,v,e2,by rw [h1];congr 2;omega, ?_,by simpa using h3,h4,by simpa using h5⟩
      simp only [Instr.findAsking,Sem.run_bind,heq false hb,Result.andThen_ok,amQ,if_false,h2];congr 3;omega
    ·cases h
   ·cases h
theorem FY{kt:TypeId}{k:AV}{ck:Value}(hk:V K k ck){es:List (AV×AV)}{mes:Array MapEntry}(hE:Es K es mes){r:Option (Nat×AV)}(h:J4 P kt k es=some r) :
  (∀ b,(Instr.checkKey b 10000 kt ck).run P w = .ok () w) ∧
  ((r=none∧(Instr.findKey kt ck mes.toList).run P w = .ok none w)∨∃ (j:Nat) (v:AV) (e:MapEntry),r=some (j,v)∧(Instr.findKey kt ck mes.toList).run P w = .ok (some (j,e.val)) w∧mes[j]?=some e∧V K v e.val∧(∃ x,es[j]?=some (x,v))∧Instr.sameBits 10000 e.key ck=true):=by
 have hes:∀ (i:Nat) (x y:AV),es[i]?=some (x,y)→∃ e:MapEntry,mes.toList[i]?=some e∧V K x e.key∧V K y e.val:=fun i x y hxy=>by obtain ⟨e,h1,h2,h3⟩:=hE.at_ i x y hxy;exact ⟨e,by simpa using h1,h2,h3⟩
 unfold J4 at h;split at h
 ·rename_i hf
  obtain ⟨d,hd,hd1,hik⟩:=Mr hk hf;refine ⟨fun b=>run_checkKey hd hik b 9999, ?_⟩;rcases Bm (n:=0) hk hd1 hik es mes.toList _ (by simpa using hE.size) hes h with ⟨h1,h2⟩ | ⟨j,v,e,h1,h2,h3,h4,x,h5,h6⟩
  ·exact .inl ⟨h1,run_findKey hd h2⟩
  ·rw [amJ] at h1 h2
   refine .inr ⟨j,v,e,h1,run_findKey hd h2,by simpa using h3,h4,⟨x,h5⟩, ?_⟩;obtain ⟨e',g1,g2,_⟩:=hE.at_ j x _ h5
   have hee:e'=e:=by
    have e3':mes[j]?=some e:=by simpa using h3
    rw [g1] at e3';cases e3';rfl
   subst hee;exact Jv hk g2 h6
 ·split at h
  ·rename_i fs xs hu _
   split at h
   ·rename_i hc
    obtain ⟨vs,rfl,hvs⟩:=hk.aa1;have hall:∀ f∈fs.toList,tU P xs f=true:=fun f hf=>amI.1 hc.2 f hf
    refine ⟨fun b => ?_, ?_⟩
    ·rw [show (10000:Nat)=9999+1 from rfl,Instr.checkKey]
     simp only [Sem.run_bind,Y5 hu,Result.andThen_ok];rw [← Array.forIn_toList];rw [FX hvs b fs.toList hall];rfl
    ·have hfk:∀ r,(Instr.findAsking kt (.agg vs) mes.toList 0).run P w = .ok r w→(Instr.findKey kt (.agg vs) mes.toList).run P w = .ok r w:=fun r hr=>by
      simp only [Instr.findKey,Sem.run_bind,Y5 hu,Result.andThen_ok];cases hml:mes.toList with
      |nil=>rw [hml] at hr;simpa [Instr.findNow,Instr.findAsking] using hr
      |cons e l=>rw [hml] at hr;simpa [Instr.findNow,Instr.sameNow] using hr
     rcases DF (w:=w) (n:=0) hu hc.1 hvs es mes.toList _ (by simpa using hE.size) hes h with ⟨h1,h2⟩ | ⟨j,v,e,h1,h2,h3,h4,x,h5,h6⟩
     ·exact .inl ⟨h1,hfk _ h2⟩
     ·rw [amJ] at h1 h2
      exact .inr ⟨j,v,e,h1,hfk _ h2,by simpa using h3,h4,⟨x,h5⟩,h6⟩
   ·cases h
  ·cases h
theorem La(hi:Inv K H w){x:AV}{cx:Value}{es:List (AV×AV)}(hx:V K x cx)(h:CV H x=some es) :
  ∃ mes:Array MapEntry,Es K es mes∧((cx = .map none∧mes = #[])∨∃ b c,cx = .map (some b)∧w.heap[b]?=some (.map mes c)):=by
 unfold CV at h;split at h
 ·cases h;cases hx
  exact ⟨#[],⟨rfl,fun i k v h=>by simp at h⟩,.inl ⟨rfl,rfl⟩⟩
 ·cases h
  cases hx with
  |Z2 _ b mes hb hl hk hv=>
   obtain ⟨c,hc⟩:=hi.shape b _ hb;refine ⟨mes,⟨hl,fun i k v h => ?_⟩,.inr ⟨b,c,rfl,hc⟩⟩;have hlt:i<mes.size:=by rw [← hl];exact (al3.1 h).1
   have h1:=hk i k v h;have h2:=hv i k v h;rw [amd,amz hlt] at h1 h2;exact ⟨mes[i],amz hlt,h1,h2⟩
 ·rename_i id
  split at h
  ·rename_i es' hes
   cases h;obtain ⟨b,mes,c,h1,h2,h3,h4,h5,h6⟩:=hi.obj id _ hes;cases hx with
   |map _ b' hb=>
    rw [h1] at hb;cases hb;exact ⟨mes,⟨h4,h5⟩,.inr ⟨b,c,rfl,h3⟩⟩
  ·cases h
 ·cases h
theorem Jx(hi:Inv K H w){t:TypeId}{x k v:AV}{cx ck:Value}{ok:Bool}(hx:V K x cx)(hk:V K k ck)(h:G7 P H t x k ok=some v) :
  ∃ cv,(Instr.lookup t cx ck ok).run P w = .ok cv w∧V K v cv:=by
 unfold G7 at h;split at h<;>try (cases h;done)
 rename_i kt et hu;split at h<;>try (cases h;done)
 rename_i es hes;split at h<;>try (cases h;done)
 all_goals rename_i hfind
 all_goals obtain ⟨mes,hE,hm⟩:=La hi hx hes
 all_goals obtain ⟨hck,hfs⟩:=FY (w:=w) hk hE hfind
 ·
  rcases hfs with ⟨h1,_⟩ | ⟨j,v',e,h1,hfk,h3,h4,_⟩
  ·cases h1
  ·cases h1
   have hrun:(Instr.lookup t cx ck ok).run P w = .ok (if ok then .tuple #[e.val,.bool true] else e.val) w:=by
    rcases hm with ⟨rfl,rfl⟩ | ⟨b,c,rfl,hb⟩
    ·simp at h3
    ·simp only [Instr.lookup,Sem.run_bind,Y5 hu,Result.andThen_ok,MapKept.run_getObj_map hb,Sem.run_pure,hck,hfk]
   cases h;refine ⟨_,hrun, ?_⟩;cases ok
   ·exact h4
   ·refine .tuple _ _ rfl fun i av hi' => ?_
    match i,hi' with
    |0,hi'=>cases hi';exact h4
    |1,hi'=>cases hi';exact .bool _
    |i+2,hi'=>simp at hi'
 ·
  rcases hfs with ⟨_,hfk⟩ | ⟨j,v',e,h1,_⟩
  ·split at h<;>try (cases h;done)
   rename_i i hinfo;split at h<;>try (cases h;done)
   rename_i z hz;have hzv:(zeroValue et).run P w = .ok z w:=by simp [zeroValue,rk hinfo,hz]
   have hrun:(Instr.lookup t cx ck ok).run P w = .ok (if ok then .tuple #[z,.bool false] else z) w:=by
    rcases hm with ⟨rfl,rfl⟩ | ⟨b,c,rfl,hb⟩
    ·have hfk':(Instr.findKey kt ck []).run P w = .ok none w:=hfk
     simp only [Instr.lookup,Sem.run_bind,Y5 hu,Result.andThen_ok,Sem.run_pure,hck,hfk',hzv]
    ·simp only [Instr.lookup,Sem.run_bind,Y5 hu,Result.andThen_ok,MapKept.run_getObj_map hb,Sem.run_pure,hck,hfk,hzv]
   cases h;refine ⟨_,hrun, ?_⟩;cases ok
   ·exact ri K z
   ·refine .tuple _ _ rfl fun i av hi' => ?_
    match i,hi' with
    |0,hi'=>cases hi';exact ri K z
    |1,hi'=>cases hi';exact .bool _
    |i+2,hi'=>simp at hi'
  ·cases h1
theorem Inv.agS(hi:Inv K H w){id b:Nat}{es es':List (AV×AV)}{mes mes':Array MapEntry}{c c':Nat}(hx:H[id]?=some (.map es))(hb:K.loc[id]?=some b)(h3:w.heap[b]?=some (.map mes c))(hE:Es K es' mes') :
  Inv K (H.set id (.map es')) { w with heap:=w.heap.setIfInBounds b (.map mes' c') }:=by
 obtain ⟨b',mes0,c0,h1,h2,h3',h4,h5,h6⟩:=hi.obj id _ hx;rw [hb] at h1;cases h1;have hbl:=(amh.1 h3).1
 have hheap:∀ b',(w.heap.setIfInBounds b (.map mes' c'))[b']?=if b'=b then some (.map mes' c') else w.heap[b']? := fun b'=>by
  by_cases e:b'=b
  ·subst e;simp [hbl]
  ·rw [anf (fun h=>e h.symm),if_neg e]
 have hnc:∀ vs T f,w.heap[b]?≠some (.cells vs T f):=fun vs T f h=>by rw [h3] at h;cases h
 refine ⟨hi.below.trans ⟨rfl,rfl,rfl,by simp,fun k hk => ?_⟩,fun b h=>hi.base b (by simpa using h),fun b' o' v' h => ?_,by simp [hi.len],fun i y hy => ?_,fun i j y z hy hz ly lz hij => ?_,fun b' t n h => ?_,hi.ZC,fun b' s h => ?_⟩
 ·show (w.heap.setIfInBounds b _)[k]?=_
  rw [hheap,if_neg (fun e=>hk (by rw [e];exact h2))]
 ·have hc:=hi.ZO _ _ _ h
  have hne:b'≠b:=fun e=>by subst e;obtain ⟨vs,T,f,h',_⟩:=zq hc;exact hnc _ _ _ h'
  rw [mh (w:=w) (by show (w.heap.setIfInBounds b _)[b']?=_;rw [hheap,if_neg hne])];exact hc
 ·rcases ka hy with ⟨rfl,rfl⟩ | ⟨hne,hy⟩
  ·exact ⟨b,mes',c',hb,h2,by show (w.heap.setIfInBounds b _)[b]?=_;rw [hheap,if_pos rfl],hE.size,hE.at_,h6⟩
  ·by_cases ly:y.live=true
   ·obtain ⟨by',hy1,_,_⟩:=hi.ZF hy ly
    have hne2:by'≠b:=fun e=>by subst e;exact hi.inj i id y _ hy hx ly rfl hne (hy1.trans hb.symm)
    exact (hi.obj i y hy).mono (.refl K) (fun b'' hb'' _ _=>by rw [hy1] at hb'';cases hb'';show (w.heap.setIfInBounds b _)[_]?=_;rw [hheap,if_neg hne2]) (fun _ _ _=>⟨fun _ h=>h,fun h=>h,fun h=>h⟩)
   ·cases y<;>first | exact absurd rfl ly | trivial
 ·have key:∀ (i:Nat) (y:Y4),(H.set id (.map es'))[i]?=some y→y.live=true→∃ y',H[i]?=some y'∧y'.live=true:=fun i y hy ly=>by
   rcases ka hy with ⟨rfl,rfl⟩ | ⟨_,h⟩
   ·exact ⟨_,hx,rfl⟩
   ·exact ⟨y,h,ly⟩
  obtain ⟨y',hy',ly'⟩:=key i y hy ly;obtain ⟨z',hz',lz'⟩:=key j z hz lz;exact hi.inj i j y' z' hy' hz' ly' lz' hij
 ·obtain ⟨hb',fr,us,T',lo,hh,h1',h2',h3''⟩:=hi.own b' t n h
  have hne:b'≠b:=fun e=>by subst e;exact hnc _ _ _ h2'
  refine ⟨hb',fr,us,T',lo,hh, ?_,by show (w.heap.setIfInBounds b _)[b']?=_;rw [hheap,if_neg hne];exact h2',h3''⟩;rw [anZ,if_neg (fun e=>by subst e;rw [hx] at h1';cases h1')];exact h1'
 ·have hne:b'≠b:=fun e=>by subst e;rw [h6] at h;cases h
  have:=hi.shape b' s h;cases s with
  |rows n=>obtain ⟨vs,T,f,g1,g2⟩:=this;exact ⟨vs,T,f,by show (w.heap.setIfInBounds b _)[b']?=_;rw [hheap,if_neg hne];exact g1,g2⟩
  |ac0 e=>obtain ⟨c,g1⟩:=this;exact ⟨c,by show (w.heap.setIfInBounds b _)[b']?=_;rw [hheap,if_neg hne];exact g1⟩
  |fix o=>exact ⟨by show (w.heap.setIfInBounds b _)[b']?=_;rw [hheap,if_neg hne];exact this.1,this.2⟩
theorem Es.set{es:List (AV×AV)}{mes:Array MapEntry}(h:Es K es mes){i:Nat}{k v:AV}{ck cv:Value}(hk:V K k ck)(hv:V K v cv):Es K (es.set i (k,v)) (mes.modify i fun e => { e with key:=ck,val:=cv }):=by
 refine ⟨by simp [h.size],fun j x y hj => ?_⟩;rcases ka hj with ⟨rfl,e⟩ | ⟨hne,hj⟩
 ·cases e
  have hlt:j<mes.size:=by have:=(al3.1 hj).1;rw [← h.size];simpa using this
  exact ⟨{ mes[j] with key:=ck,val:=cv },by rw [ang,if_pos rfl,amz hlt];rfl,hk,hv⟩
 ·obtain ⟨e,h1,h2,h3⟩:=h.at_ j x y hj
  exact ⟨e,by rw [ang,if_neg (fun e=>hne e.symm)];exact h1,h2,h3⟩
theorem Es.push{es:List (AV×AV)}{mes:Array MapEntry}(h:Es K es mes){k v:AV}{ck cv:Value}(n:Nat)(hk:V K k ck)(hv:V K v cv):Es K (es++[(k,v)]) (mes.push { key:=ck,val:=cv,born:=n }):=by
 refine ⟨by simp [h.size],fun j x y hj => ?_⟩;rcases rj hj with hj | ⟨rfl,e⟩
 ·obtain ⟨e,h1,h2,h3⟩:=h.at_ j x y hj
  exact ⟨e,by rw [ao6,if_neg (by have:=(amh.1 h1).1;omega)];exact h1,h2,h3⟩
 ·cases e
  exact ⟨{ key:=ck,val:=cv,born:=n },by rw [h.size];simp,hk,hv⟩
theorem yn(hi:Inv K H w){t:TypeId}{m k v:AV}{cm ck cv:Value}{H':List Y4}(hm:V K m cm)(hk:V K k ck)(hv:V K v cv)(h:tV P H t m k v=some H') :
  ∃ w',(Instr.mapUpdate t cm ck cv).run P w = .ok () w'∧Inv K H' w':=by
 unfold tV at h;split at h<;>try (cases h;done)
 rename_i kt et id hu;split at h<;>try (cases h;done)
 rename_i es hes;obtain ⟨b,mes,c,h1,h2,h3,h4,h5,h6⟩:=hi.obj id _ hes;have hE:Es K es mes:=⟨h4,h5⟩
 cases hm with
 |map _ b' hb=>
  rw [h1] at hb;cases hb;split at h<;>try (cases h;done)
  all_goals rename_i hfind
  all_goals obtain ⟨hck,hfs⟩:=FY (w:=w) hk hE hfind
  ·rcases hfs with ⟨e1,_⟩ | ⟨j,v',e,e1,hfk,g1,e4,_,hbits⟩
   ·cases e1
   ·obtain ⟨ej,_⟩:=Prod.mk.inj (ao1 e1)
    rw [ej] at h;cases h
    have hks:(Instr.keyThatStays (((mes[j]?).map (·.key)).getD ck) ck).run P w = .ok ck w:=by
     simp [Instr.keyThatStays,g1,hbits]
    refine ⟨_, ?_,hi.agS (c':=c) hes h1 h3 (hE.set (i:=j) hk hv)⟩;simp only [Instr.mapUpdate,Sem.run_bind,Y5 hu,Result.andThen_ok,MapKept.run_getObj_map h3,hck,hfk,hks];exact run_setObj_map _ h3
  ·rcases hfs with ⟨_,hfk⟩ | ⟨j,v',e,e1,_⟩
   ·cases h
    refine ⟨_, ?_,hi.agS (c':=c+1) hes h1 h3 (hE.push c hk hv)⟩;simp only [Instr.mapUpdate,Sem.run_bind,Y5 hu,Result.andThen_ok,MapKept.run_getObj_map h3,hck,hfk];exact run_setObj_map _ h3
   ·cases e1
end
end
def Bn(m:Bool)(P:Program)(H:List Y4)(t u:TypeId)(s x:AV):Option (AV×List Y4):=
 match m,s with
 |false,.Za id 0 0 esz true=>match H[id]? with
  |some (.cells _ T)=>Cd P (H.set id (.tok 0 T)) t u (.slice (.own id) esz []) x
  |_=>none
 |_,.Za .. => we P H t u s x
 |true,.slice .full _ _=>we P H t u s x
 |true,.slice .nil esz rows=>we P H t u (.slice .full esz rows) x
 |_,_=>Cd P H t u s x
def j7(m:Bool)(P:Program)(H:List Y4)(b:Builtin)(ts:Array TypeId)(args:List AV):Option (AV×List Y4):=
 match b,ts.toList,args with
 |.len,[t],[x]=>(NY P H t x).map (·,H)
 |.cap,[t],[x]=>(RK P t x).map (·,H)
 |.append,[t,u],[s,x]=>Bn m P H t u s x
 |.copy,[t,u],[d,s]=>Mp P H t u d s
 |.max,_,[x,y]=>(Mm x y).map (·,H)
 |.min,_,[x,y]=>(DA x y).map (·,H)
 |_,_,_=>none
def Lb(P:Program)(H:List Y4)(t:TypeId)(x:AV):Option (AV×List Y4):=
 match P.underlying t,x with
 |some .string,.str s=>some (.ptr H.length 0,H++[.aaj s 0])
 |_,_=>none
def Ms(H:List Y4)(x:AV):Option (AV×List Y4):=
 match x with
 |.ptr id 0=>match H[id]? with
  |some (.aaj s pos)=>
   if pos<s.length then some (.tuple [.bool true,.int .i64 pos,.int .i32 (Utf8.decode ⟨s.toArray⟩ pos).1],H.set id (.aaj s (pos+(Utf8.decode ⟨s.toArray⟩ pos).2)))
   else some (.tuple [.bool false],H)
  |_=>none
 |_=>none
def jY:AV:=.tuple []
def aop(P:Program)(G:Nat→Option (List AV))(a:Env)(H:List Y4)(op:Op):Option (AV×List Y4):=
 match op with
 |.move x=>some (eg G a x,H)
 |.assign x=>some (eg G a x,H)
 |.pick c x y=>match eg G a c with
  |.bool b=>some (if b then eg G a x else eg G a y,H)
  |_=>none
 |.alloc e=>(AE P e).map fun cs=>(.ptr H.length 0,H++[.cells cs e])
 |.box e x=>(dM (eg G a x)).map fun cs=>(.ptr H.length 0,H++[.cells cs e])
 |.build t ps=>(Hy P t (ps.toList.map fun p=>(p.1,eg G a p.2))).map (·,H)
 |.buildSlice t l ps=>(xn P t l (ps.toList.map fun p=>(p.1,eg G a p.2))).map (·,H)
 |.load t x=>(xl P H t (eg G a x)).map (·,H)
 |.store t x v=>(Ba P H t (eg G a x) (eg G a v)).map (.tuple [],·)
 |.nilCheck x=>match eg G a x with
  |.ptr i o=>some (.ptr i o,H)
  |.Zu e r i o=>some (.Zu e r i o,H)
  |.fn (.func f) x y=>some (.fn (.func f) x y,H)
  |_=>none
 |.binOp op t x y _=>(sM P op t x y (eg G a x) (eg G a y)).map (·,H)
 |.unOp op _ x=>(J2 op (eg G a x)).map (·,H)
 |.convert s d x=>(qA P H s d (eg G a x)).map (·,H)
 |.makeInterface t x=>(sL P t (eg G a x)).map (·,H)
 |.makeFunc f x y=>some (.fn f (x.toList.map (eg G a)) (y.toList.map (eg G a)),H)
 |.slice t x l h m=>if m.isNone=true∨h.isSome=true then (CR P t (eg G a x) (l.map (eg G a)) (h.map (eg G a)) (m.map (eg G a))).map (·,H) else none
 |.fieldAddr s x f=>(Dw P s (eg G a x) f).map (·,H)
 |.field s x f=>(KW P s (eg G a x) f).map (·,H)
 |.indexAddr t x i=>(Bb P t (eg G a x) (eg G a i)).map (·,H)
 |.index t x i=>(Hs P t (eg G a x) (eg G a i)).map (·,H)
 |.extract x i=>(uw (eg G a x) i).map (·,H)
 |.typeAssert x _ T ok=>(xo P (eg G a x) T ok).map (·,H)
 |.makeMap _ none=>some (.map H.length,H++[.map []])
 |.makeSlice t l c=>zu P H t (eg G a l) (eg G a c)
 |.insert t m k v=>(tV P H t (eg G a m) (eg G a k) (eg G a v)).map (jY,·)
 |.mapUpdate t m k v=>(tV P H t (eg G a m) (eg G a k) (eg G a v)).map (jY,·)
 |.lookup t x k ok=>(G7 P H t (eg G a x) (eg G a k) ok).map (·,H)
 |.range t x=>Lb P H t (eg G a x)
 |.next x true=>Ms H (eg G a x)
 |_=>none
def kE(a:Env)(dst:Option Tmp)(v:AV):Env:=
 match dst with
 |some d=>qx a d v
 |none=>a
def Wc(P:Program)(G:Nat→Option (List AV))(a:Env)(H:List Y4)(o:Oper)(Kv Kp:AV→List Y4→Prop):Prop:=
 match o.op with
 |.call c=>match c.callee with
  |.value f=>match eg G a f with
   |.fn (.func g) first cap=>dL P G g (first++c.args.toList.map (eg G a)++cap) H fun r H'=>match r with | .ret v=>Kv v H' | .panic v=>Kp v H'
   |_=>False
  |.builtin b => ∃ m,match j7 m P H b c.argTypes (c.args.toList.map (eg G a)) with
   |some (v,H')=>Kv v H'
   |none=>False
  |.invoke _ _=>False
 |.panic x=>match eg G a x with
  |.iface t v=>Kp (.iface t v) H
  |_=>False
 |op=>match aop P G a H op with
  |some (v,H')=>Kv v H'
  |none=>False
def UD(P:Program)(fn:Func)(a:Env)(H:List Y4):Option AV:=
 let one:ResultVar→Option AV:=fun
  |.tmp t=>some (fh a t)
  |.cell x t=>xl P H t (fh a x)
 match fn.results.toList with
 |[r]=>one r
 |rs=>(rs.mapM one).map .tuple
end Go.Am
