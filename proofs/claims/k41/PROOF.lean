import PyProof.Rows.All
import Wide.All
import OpenK.AllK
import Wide.FinOn
import KE.KStateDown
import HandS.ForMost
import HandS.Exc
import HandS.ExcOwn
import HandS.Head0
import HandS.Head1
import HandS.Head2
import HandS.HeadEnd
import HandS.HeadHook1
import HandS.HeadHook2
import HandS.HeadHook3
import HandS.Defaults
import HandS.Ends
import HandS.HotCalls
import HandS.Wide
import HandS.Flow
import HandS.Deep
import HandS.TupAny
import HandS.IsInst
import HandS.Text
import HandS.WordsDict
import HandS.Style
import PyProof.ReprRoads
import PyProof.ReprBulk
import KE.KIntText
import HandS.Conv
import HandS.More
import HandS.ListItems
import HandS.ExcInit
import HandS.ExcInitHot
import KE.KDictList
import HandS.SetKeys
import KE.DataFind
import PyProof.ListStr
import HandS.SetTxt0
import HandS.Set
import HandS.SetFor
import HandS.Strs
import KE.DataMinMax
import KE.SortData
import KE.GoesEnum
import HandS.Iter
import KE.GoesZip
import KE.GoesMore
import HandS.Codes
import HandS.Comp
import HandS.ForList
import HandS.ExcIs
import HandS.ExcField
import KE.KIsAll
import HandS.Small
import PyProof.FitsInt
import PyProof.ReprRoom
import Lean
import PySem.Challenge.RW_stillmain_k41_cost_of
set_option Elab.async false
set_option linter.all false
set_option maxRecDepth 100000
set_option maxHeartbeats 0
def zag:=@List.length_map
def zah:=@decide_eq_true_eq
def zai:=@PySem.sizeLine_eq
def zaj:=@List.mem_singleton
def zak:=@Bool.and_eq_true
def zal:=@List.mem_cons_self
def zam:=@Option.map_eq_some_iff
def zan:=@List.mem_map
def zao:=@List.mem_cons_of_mem
def zap:=@List.mem_append
def zaq:=@List.mem_of_getElem?
def zar:=@List.mem_append_left
def zas:=@List.mem_append_right
def zat:=@List.map_map
def zau:=@List.mem_cons
def zav:=@List.map_append
def zaw:=@List.length_append
def zax:=@List.map_cons
def zay:=@List.mem_filter
def zaz:=@List.length_cons
def zba:=@List.not_mem_nil
def zbb:=@List.length_filter_le
def zbc:=@List.filter_eq_self
def zbd:=@List.nodup_cons
def zbe:=@Bool.false_ne_true
def zbf:=@decide_eq_false
def zbg:=@decide_eq_true
def zbh:=@List.getElem?_map
def zbi:=@List.getElem?_eq_getElem
abbrev zbj:=PySem.W.Frag
namespace Qt
def Put (p:Prop):Prop:=p
theorem put_in {p:Prop} (h:Put p):p:=h
theorem keep {p:Prop} (h:p):p:=h
theorem put_off {p:Prop} (h:p):Put p=True:=eq_true h
end Qt
noncomputable section
namespace Sv
open PySem PySem.Spec PyProof.Rows L2 PySem.W PySem.Calls
inductive Fx where
 | oex (x:Str) | ini (x:Str) | bas (x:Str) | exf (x:Str) | insf (x:Str) | nov (x f:Str)
 | kit (x y:Str) (b:Bool) | kitT (x:Str) (n:String) (b:Bool)
 | exfs (xs:List Str) | sib (xs:List Str) | veT (xs:List Str) (n:String) | exA (xs:List Str) (y:Str) | tyo (x:Str)
def b6G (K:Frag) (C:Addr):Bool:=(match K.lookup C with
 | some ⟨.type "type",_,.cls cd,sl⟩=>(match cd.mro,sl.toList with
  | .ref C' :: bm,[_,_,_,_,some (.builtin n),_]=>decide (C'=C) && decide (n = "ValueError.__new__") && !cd.hasDel && cd.hasDict && PySem.HandSPX.refsVE bm
  | _,_=>false)
 | _=>false) && (He.eqO (findIn K (.ref C) "__setattr__") (some (some (.builtin "object.__setattr__"))) && (decide (subIn K (.ref C) (.type "BaseException")=some true) && (decide (typeIn K (.ref C)=some (.type "type")) && keepIn K (.ref C))))
def cvB (r:Option CFound) (v:Value):Bool:=match r with
 | some (.val u)=>decide (u=v)
 | _=>false
def b8M (K:Frag) (x:Str):Bool:=He.eqO (findIn K (.ref (He.ga K x)) "__getattribute__") (some (some (.builtin "BaseException.__getattribute__"))) && (He.eqO (findIn K (.ref (He.ga K x)) "__getattr__") (some none) && (decide (subIn K (.ref (He.ga K x)) (.type "BaseException")=some true) && (hasDictIn K (He.ga K x) &&
   (He.eqO (findIn K (.ref (He.ga K x)) "__class__") (some (some (.builtin "object.__class__"))) && (He.eqO (specialIn K (.builtin "object.__class__") "__get__") (some (some (.builtin "getset_descriptor.__get__"))) && (decide (takesIn K (.builtin "object.__class__")=some true) && decide (mroIn K (He.ga K x) (.type "object")=some true)))))))
def Fx.ok (K:Frag):Fx→Bool
 | .oex x=>b6G K (He.ga K x)
 | .ini x=>He.eqO (findIn K (.ref (He.ga K x)) "__init__") (some (some (.ref (He.ma K (He.ga K x) "__init__")))) && decide (typeIn K (.ref (He.ma K (He.ga K x) "__init__"))=some (.type "function"))
 | .bas x=>readsIn K (He.ga K x) (.type "type") && (He.eqO (specialIn K (.ref (He.ga K x)) "__getattribute__") (some (some (.builtin "type.__getattribute__"))) && cvB (findCls K (.ref (He.ga K x)) (.type "type") "__init__") (.builtin "ValueError.__init__"))
 | .exf x=>b8M K x
 | .exfs xs=>xs.all (b8M K)
 | .insf x=>He.eqO (findIn K (.ref (He.ga K x)) "__class__") (some (some (.builtin "object.__class__"))) && (He.eqO (specialIn K (.builtin "object.__class__") "__get__") (some (some (.builtin "getset_descriptor.__get__"))) && (decide (takesIn K (.builtin "object.__class__")=some true) && (decide (mroIn K (He.ga K x) (.type "object")=some true) && decide (kitOne K (.ref (He.ga K x)) (.ref (He.ga K x))=some true))))
 | .nov x f=>He.eqO (findIn K (.ref (He.ga K x)) f) (some none)
 | .kit x y b=>decide (kitOne K (.ref (He.ga K x)) (.ref (He.ga K y))=some b)
 | .kitT x n b=>decide (kitOne K (.ref (He.ga K x)) (.type n)=some b)
 | .sib xs=>xs.all fun x=>xs.all fun y=>decide (kitOne K (.ref (He.ga K x)) (.ref (He.ga K y))=some (decide (x=y)))
 | .veT xs n=>xs.all fun x=>decide (kitOne K (.ref (He.ga K x)) (.type n)=some true)
 | .exA xs y=>xs.all fun x=>decide (exmOne K (.ref (He.ga K x)) (.ref (He.ga K y))=some true)
 | .tyo x=>decide (typeIn K (.ref (He.ga K x))=some (.type "type"))
abbrev AlX:Type:=He.AlD × Bool
def foL {β:Type} {α:Type} (f:{α:Type}→β→(β→α)→α) (l:List β):(List β→α)→α :=
 List.rec (motive:=fun _=>(List β→α)→α) (fun k=>k []) (fun a _ ih k=>f a fun a=>ih fun r=>k (a :: r)) l
def foN {α:Type} (n:Nat) (k:Nat→α):α:=HandSHeadRun.frNat n k
def foS {α:Type} (s:Str) (k:Str→α):α:=match s with
 | ⟨⟨l⟩⟩=>foL foN l fun l=>k ⟨⟨l⟩⟩
def foV {α:Type} (v:Value) (k:Value→α):α:=match v with
 | .ref a=>foN a fun a=>k (.ref a)
 | .str s t=>foS s fun s=>k (.str s t)
 | .none=>k .none
 | .ellipsis=>k .ellipsis
 | .notImplemented=>k .notImplemented
 | .bool b=>k (.bool b)
 | .int i t=>k (.int i t)
 | .float b t=>k (.float b t)
 | .bytes b t=>k (.bytes b t)
 | .type n=>k (.type n)
 | .builtin n=>k (.builtin n)
def foE {α:Type} (e:DictEntry) (k:DictEntry→α):α:=match e with
 | ⟨h,x,v⟩=>foV x fun x=>foV v fun v=>k ⟨h,x,v⟩
def foD {α:Type} (d:Data) (k:Data→α):α:=match d with
 | .dict ⟨es⟩ n=>foL foE es fun es=>k (.dict ⟨es⟩ n)
 | .seq ⟨es⟩ n=>foL foV es fun es=>k (.seq ⟨es⟩ n)
 | .cls ⟨a1,a2,mro,ns,a3,a4,a5,a6,a7,a8,a9⟩=>foL foV mro fun mro=>foN ns fun ns=>k (.cls ⟨a1,a2,mro,ns,a3,a4,a5,a6,a7,a8,a9⟩)
 | .func ⟨n1,n2,n3,n4,n5,n6,n7,n8,n9,n10,n11,n12,n13,n14,n15⟩=>foN n6 fun n6=>foV n8 fun n8=>foV n9 fun n9=>foV n13 fun n13=>foN n15 fun n15=>k (.func ⟨n1,n2,n3,n4,n5,n6,n7,n8,n9,n10,n11,n12,n13,n14,n15⟩)
 | .plain=>k .plain
 | .prim v=>k (.prim v)
 | .set a b c=>k (.set a b c)
 | .bytearray a b=>k (.bytearray a b)
 | .cell v=>k (.cell v)
 | .fields ⟨es⟩=>foL foV es fun es=>k (.fields ⟨es⟩)
 | .freed=>k .freed
def foO {α:Type} (o:Obj) (k:Obj→α):α:=match o with
 | ⟨c,d,dt,sl⟩=>foV c fun c=>foD dt fun dt=>k ⟨c,d,dt,sl⟩
def codeS (x:Str):Nat:=x.cps.toList.foldl (fun n c=>Nat.add (Nat.mul 256 n) c) 1
abbrev Tab:Type:=List (Addr × Option (List (Nat × DictEntry)))
def a2n (e:DictEntry):Nat:=match e.key with
 | .str x _=>codeS x
 | _=>0
def foC {α:Type} (es:List DictEntry):(List (Nat × DictEntry)→α)→α :=
 List.rec (motive:=fun _=>(List (Nat × DictEntry)→α)→α) (fun k=>k []) (fun e _ ih k=>foN (a2n e) fun n=>ih fun r=>k ((n,e) :: r)) es
def foP {α:Type} (o:Obj) (k:Option (List (Nat × DictEntry))→α):α:=match o with
 | ⟨_,_,.dict ⟨es⟩ _,_⟩=>foC es fun l=>k (some l)
 | _=>k none
def foT {α:Type} (K:Frag):(Tab→α)→α :=
 List.rec (motive:=fun _=>(Tab→α)→α) (fun k=>k []) (fun p _ ih k=>match p with
  | (a,o)=>foP o fun t=>ih fun T=>k ((a,t) :: T)) K
def a01 {β:Type} (l:List (Nat × β)) (a:Nat):Option β :=
 List.rec none (fun p _ ih=>match p with
  | (b,v)=>match Nat.beq a b with
   | true=>some v
   | false=>ih) l
def a6d (c:Nat) (x:Str) (l:List (Nat × DictEntry)):Option DictEntry :=
 List.rec none (fun p _ ih=>match p with
  | (n,e)=>match Nat.beq n c with
   | true=>(match e.key.isStr x with
    | true=>some e
    | false=>ih)
   | false=>ih) l
section
variable {α:Type} (g:Addr→Option Obj)
def a9I (l:List Addr):Nat→List Addr→(Nat→List Addr→α)→α :=
 List.rec (motive:=fun _=>Nat→List Addr→(Nat→List Addr→α)→α) (fun m f k=>k m f) (fun a _ ih m f k=>match Nat.beq (Nat.land (Nat.shiftRight m a) 1) 0 with
  | true=>foN a fun a=>foN (Nat.lor m (Nat.shiftLeft 1 a)) fun m=>ih m (a :: f) k
  | false=>ih m f k) l
end
section
variable {α:Type} (g:Addr→Option Obj)
def a2Q (l:List Addr):Nat→List Addr→Frag→(Nat→List Addr→Frag→α)→α :=
 List.rec (motive:=fun _=>Nat→List Addr→Frag→(Nat→List Addr→Frag→α)→α) (fun m f K k=>k m f K) (fun a _ ih m f K k=>match g a with
  | none=>ih m f K k
  | some o=>foO o fun o=>a9I (He.refsD o) m f fun m f=>ih m f ((a,o) :: K) k) l
end
section
variable {α:Type} (g:Addr→Option Obj)
def a9h:Nat→List Addr→Nat→Frag→(Frag→α)→α
 | 0,l,m,K,k=>a2Q g l m [] K fun _ _ K=>k K
 | n + 1,l,m,K,k=>a2Q g l m [] K fun m f K=>a9h n f m K k
end
section
variable {α:Type} (g:Addr→Option Obj)
def b0p (n:Nat) (k:Frag→α):α:=a9h g n [mainGlobals,cStatics] (Nat.lor (Nat.shiftLeft 1 mainGlobals) (Nat.shiftLeft 1 cStatics)) [] fun K=>k K.reverse
end
inductive Cw where
 | str (z:Str) | tup (zs:List Str)
abbrev TbW:Type:=Str × List (Str × Cw)
def b6l:List Value→List Str→Bool
 | [],[]=>true
 | .str x _ :: vs,z :: zs=>decide (x=z) && b6l vs zs
 | _,_=>false
def cwB (K:Frag) (v:Cw) (u:Value):Bool:=match v with
 | .str z=>(match u with
  | .str x _=>decide (x=z)
  | _=>false)
 | .tup zs=>(match u with
  | .ref a=>(match K.lookup a with
   | some ⟨.type c,_,.seq its _,_⟩=>decide (c = "tuple") && (decide (its.size≤1000) && b6l its.toList zs)
   | _=>false)
  | _=>false)
def c4c (K:Frag) (t:TbW):Bool:=t.2.all fun q=>match nsIn K (He.ga K t.1) q.1 with
 | some (some u)=>cwB K q.2 u
 | _=>false
def a2b (ts:List TbW) (K:Frag):Bool × List (Option (List (Option (Str × Int)))):=(ts.all (c4c K),ts.map fun t=>He.dicW K (He.ga K t.1))
def a1s (ts:List TbW) (w:World):Bool × List (Option (List (Option (Str × Int)))):=(true,ts.map fun t=>some (He.keysIn w.params (t.2.map (·.1))))
abbrev AlT:Type:=AlX × (Bool × List (Option (List (Option (Str × Int)))))
section
open HandSHeadRun
abbrev ROW:String := "special-get-raises"
end
section
variable (L:Addr→Option Obj) (K:Frag) (N:Addr→Str→Option (Option Value))
def gaM (x:Str):Addr:=match N mainGlobals x with
 | some (some (.ref a))=>a
 | _=>0
end
section
variable (L:Addr→Option Obj) (K:Frag) (N:Addr→Str→Option (Option Value))
def c1h (name:Str):Value→Option (Option Value)
 | .type n=>some (fastBuiltinOwn n name)
 | .ref a=>(match L a with
   | some ⟨_,_,.cls cd,_⟩=>N cd.ns name
   | _=>none)
 | _=>some none
end
section
variable (L:Addr→Option Obj) (K:Frag) (N:Addr→Str→Option (Option Value))
def a6H (name:Str):List Value→Option (Option Value)
 | []=>some none
 | c :: r=>match c1h L N name c with
  | some (some v)=>some (some v)
  | some none=>a6H name r
  | none=>none
end
section
variable (L:Addr→Option Obj) (K:Frag) (N:Addr→Str→Option (Option Value))
def a6e (t:Value) (name:Str):Option (Option Value):=match t with
 | .type n=>fastLookup n name
 | .ref a=>(match L a with
   | some ⟨_,_,.cls cd,_⟩=>a6H L N name cd.mro
   | _=>none)
 | _=>none
end
section
variable (L:Addr→Option Obj) (K:Frag) (N:Addr→Str→Option (Option Value))
def maM (C:Addr) (m:Str):Addr:=match a6e L N (.ref C) m with
 | some (some (.ref a))=>a
 | _=>0
end
section
variable (L:Addr→Option Obj) (K:Frag) (N:Addr→Str→Option (Option Value))
def b6F (p:Str × Option Str):Addr:=match p.2 with
 | none=>gaM N p.1
 | some m=>maM L N (gaM N p.1) m
end
section
variable (L:Addr→Option Obj) (K:Frag) (N:Addr→Str→Option (Option Value))
def keepM (a:Addr):Bool:=match L a with
 | some ⟨_,_,.func _,_⟩=>true
 | some ⟨_,_,.cls _,_⟩=>specialIn K (.ref a) "__call__" == some (some (.builtin "type.__call__"))
 | _=>false
end
section
variable (L:Addr→Option Obj) (K:Frag) (N:Addr→Str→Option (Option Value))
def b8p (cd:Value) (q:Str):Bool:=match cd with
 | .ref c=>(match L c with
   | some ⟨_,_,.fields vs,_⟩=>(match vs.toList with | _ :: .str n _ :: _=>n == q | _=>false)
   | _=>false)
 | _=>false
end
section
variable (L:Addr→Option Obj) (K:Frag) (N:Addr→Str→Option (Option Value))
def b8Z (a:Addr):Bool:=(L a).map (·.cls) == some (.type "function")
end
section
variable (L:Addr→Option Obj) (K:Frag) (N:Addr→Str→Option (Option Value))
def faM:He.Fa→Bool
 | .glo x=>He.eqO (N mainGlobals x) (some (some (.ref (gaM N x))))
 | .free x=>He.eqO (N mainGlobals x) (some none)
 | .int x i=>(match N mainGlobals x with
  | some (some (.int j _))=>decide (j=i)
  | _=>false)
 | .str x z=>(match N mainGlobals x with
  | some (some (.str y _))=>decide (y=z)
  | _=>false)
 | .cls x=>plainGet K (gaM N x) Str.empty && (hasDictIn K (gaM N x) && (plainOver K (gaM N x) && He.eqO (findIn K (.ref (gaM N x)) "__setattr__") (some (some (.builtin "object.__setattr__")))))
 | .noat x f=>He.eqO (a6e L N (.ref (gaM N x)) f) (some none)
 | .meth x m=>He.eqO (a6e L N (.ref (gaM N x)) m) (some (some (.ref (maM L N (gaM N x) m)))) && (b8Z L (maM L N (gaM N x) m) && keepM L K (maM L N (gaM N x) m))
 | f=>f.ok K
end
section
variable (L:Addr→Option Obj) (K:Frag) (N:Addr→Str→Option (Option Value))
def okM (d:He.DefD) (a:Addr):Bool:=keepM L K a && (match L a with
 | some ⟨_,_,.func fd,_⟩=>b8p L fd.code d.qual && (He.dflB K fd.defaults (d.dvs K) && He.kwdB K fd.kwdefaults (d.kws K))
 | _=>false)
end
section
variable (L:Addr→Option Obj) (K:Frag) (N:Addr→Str→Option (Option Value))
def fnM (a:Addr):He.FnW:=match L a with
 | some ⟨_,_,.func fd,_⟩=>some (fd.name,fd.qualname,fd.params,fd.body,fd.scope,fd.globals,fd.closure,fd.builtins)
 | _=>none
end
section
variable (L:Addr→Option Obj) (K:Frag) (N:Addr→Str→Option (Option Value))
def fxM:Fx→Bool
 | .oex x=>b6G K (gaM N x)
 | .ini x=>He.eqO (a6e L N (.ref (gaM N x)) "__init__") (some (some (.ref (maM L N (gaM N x) "__init__")))) && decide (typeIn K (.ref (maM L N (gaM N x) "__init__"))=some (.type "function"))
 | .nov x f=>He.eqO (a6e L N (.ref (gaM N x)) f) (some none)
 | .kit x y b=>decide (kitOne K (.ref (gaM N x)) (.ref (gaM N y))=some b)
 | .kitT x n b=>decide (kitOne K (.ref (gaM N x)) (.type n)=some b)
 | .sib xs=>xs.all fun x=>xs.all fun y=>decide (kitOne K (.ref (gaM N x)) (.ref (gaM N y))=some (decide (x=y)))
 | .veT xs n=>xs.all fun x=>decide (kitOne K (.ref (gaM N x)) (.type n)=some true)
 | .exA xs y=>xs.all fun x=>decide (exmOne K (.ref (gaM N x)) (.ref (gaM N y))=some true)
 | f=>f.ok K
end
section
variable (L:Addr→Option Obj) (K:Frag) (N:Addr→Str→Option (Option Value))
def b9d (fa:List He.Fa) (fn:List He.DefD) (fx:List Fx):AlX:=(((fa.all fun f=>faM L K N f) && fn.all fun d=>okM L K d (b6F L N d.at_),fn.map fun d=>fnM L (b6F L N d.at_)),fx.all fun f=>fxM L K N f)
end
def a6g (g:Addr→Option Obj) (n:Nat):Frag:=(List.range n).filterMap fun a=>(g a).map fun o=>(a,o)
def nsU (T:Tab) (K:Frag) (ns:Addr) (x:Str):Option (Option Value):=match a01 T ns with
 | some (some l)=>foN (codeS x) fun c=>(match a6d c x l with
  | some e=>some (some e.val)
  | none=>if l.any (fun p=>p.2.refKey) then none else some none)
 | _=>nsIn K ns x
def b2s (n N:Nat) (fa:List He.Fa) (fn:List He.DefD) (fx:List Fx) (ts:List TbW) (g:Addr→Option Obj):AlT :=
 b0p g n fun K=>foT K fun T=>(b9d g (K ++ a6g g N) (nsU T (K ++ a6g g N)) fa fn fx,a2b ts (K ++ a6g g N))
section
open HandSHeadRun
def b1k (r:OpenRow) (M:Nat) (b:Bool) (w:World):Prop :=
 ∀ os:OsState,(endF (stepQ (denQ tabQ) r.prog (w.withFollow ROW b)) M r.prog w os).map (fun s=>looksF r.prog (boot_heap w.params) s.abs)=some true
end
section
open HandSHeadRun
def b1l (r:OpenRow) (q:Program) (M:Nat) (loose:List Str) (b:Bool) (w:World):Prop :=
 ∀ os:OsState,(endF (stepQ (denQ tabQ) r.prog (w.withFollow ROW b)) M r.prog w os).map (fun s=>seenQ q loose (importedModules r.prog.main.body) (fun s=>xlAt q [] s && recOk r.toRowW.records s) s.abs)=some (openGood q loose)
end
section
open HandSHeadRun
def b1m (r:OpenRow) (M n:Nat) (fa:List He.Fa) (fn:List He.DefD) (fx:List Fx) (ts:List TbW) (b:Bool) (w:World):Prop :=
 ∀ os:OsState,(endF (stepQ (denQ tabQ) r.prog (w.withFollow ROW b)) M r.prog w os).map (fun s=>b2s n s.n fa fn fx ts (getT s))=some ((He.valD fn,true),a1s ts w)
end
end Sv
end
namespace Sv
open PySem PySem.Spec PyProof.Rows L2
inductive D where
 | non | bl (b:Bool) | int (i:Int) | str (x:Str)
 | lst (xs:List D) | tup (xs:List D) | dic (kvs:List (Key × D))
 | obj (a:Addr) | exc (a:Addr) (oe:Obj) (C:Addr) (fs:List (Str × D))
 | err (a C:Addr) (fs:List (Str × D)) (bare:Bool)
inductive Cell where
 | lst (xs:List D) | dic (kvs:List (Key × D)) | loc (kvs:List (Key × D)) | ins (C:Addr) (fs:List (Str × D))
abbrev SS:=Addr→Option Cell
def SS.set (S:SS) (a:Addr) (c:Cell):SS:=fun b=>if b=a then some c else S b
def SS.del (S:SS) (a:Addr):SS:=fun b=>if b=a then none else S b
theorem zab {S:SS} {a:Addr} {c:Cell}:S.set a c a=some c:=if_pos rfl
theorem zaa {S:SS} {a b:Addr} {c:Cell} (h:b≠a):S.set a c b=S b:=if_neg h
theorem SS.del_same {S:SS} {a:Addr}:S.del a a=none:=if_pos rfl
theorem SS.del_ne {S:SS} {a b:Addr} (h:b≠a):S.del a b=S b:=if_neg h
theorem zac {S:SS} {p:Addr} {x y:Cell}:(S.set p x).set p y=S.set p y:=by
 funext q
 unfold SS.set
 by_cases h:q=p
 ·rw [if_pos h,if_pos h]
 ·rw [if_neg h,if_neg h,if_neg h]
theorem SS.set_id {S:SS} {p:Addr} {x:Cell} (h:S p=some x):S.set p x=S:=by
 funext q
 unfold SS.set
 by_cases e:q=p
 ·rw [if_pos e,e,h]
 ·rw [if_neg e]
theorem zae {S:SS} {a b:Addr} {x y:Cell} (h:a≠b):(S.set a x).set b y=(S.set b y).set a x:=by
 funext q
 unfold SS.set
 by_cases h1:q=b
 ·have h2:q≠a:=fun e=>h (e.symm.trans h1)
  rw [if_pos h1,if_neg h2,if_pos h1]
 ·rw [if_neg h1]
  by_cases h2:q=a
  ·rw [if_pos h2,if_pos h2]
  ·rw [if_neg h2,if_neg h2,if_neg h1]
theorem zaf {S:SS} {p:Addr} {x:Cell} (h:S p=none):(S.set p x).del p=S:=by
 funext q
 unfold SS.set SS.del
 by_cases e:q=p
 ·simp [e,h]
 ·simp [e]
theorem SS.set_del {S:SS} {p:Addr} {x:Cell}:(S.set p x).del p=S.del p:=by
 funext q
 unfold SS.set SS.del
 by_cases e:q=p
 ·simp [e]
 ·simp [e]
theorem zad {S:SS} {a b:Addr} {c:Cell} (h:S a=some c) (h2:S b=none):a≠b:=fun e=>by rw [e,h2] at h;cases h
structure Gd where
 K:zbj
abbrev noH:Hp:=fun _=>none
def LstAt (g:Gd) (S:SS) (H:Hp) (p:Addr) (vs:List V):Prop:=(S p=none∧Rd H p (.lst vs))∨SqL g.K noH p vs
def TupAt (g:Gd) (S:SS) (H:Hp) (p:Addr) (vs:List V):Prop:=(S p=none∧H p=some (.tup vs))∨SqT g.K noH p vs
def b1f (H:Hp) (a C:Addr) (d:Option Addr) (bare:Bool):Prop:=∃ φ:Heap→Prop,H a=some (.ext φ)∧∀ h,φ h→∃ oe,h.get? a=some oe∧Zc (.ref C) d oe∧∃ vs,oe.data=.fields vs∧(bare=true→d=none∧∃ t0,vs[0]?=some (.ref t0)∧h.TupAt t0 [])
mutual
def Rep (g:Gd) (S:SS) (H:Hp):D→V→Prop
 | .non,v=>v=.non
 | .bl b,v=>v=.bl b
 | .int i,v=>v=.int i
 | .str x,v=>v=.str x
 | .lst ds,v=>∃ p vs,v=.ref p∧LstAt g S H p vs∧a0e g S H ds vs
 | .tup ds,v=>∃ p vs,v=.ref p∧TupAt g S H p vs∧a0e g S H ds vs
 | .dic kvs,v=>∃ p ws,v=.ref p∧S p=none∧H p=some (.dK ws)∧a0L g S H kvs ws
 | .obj a,v=>v=.ref a
 | .exc a oe C fs,v=>∃ d,v=.ref a∧(Zc (.ref C) d oe∧∃ vs,oe.data=.fields vs)∧((d=none∧fs=[])∨∃ dd ws,d=some dd∧S dd=none∧H dd=some (.xd ws)∧a1Q g S H fs ws)
 | .err a C fs bare,v=>∃ d,v=.ref a∧S a=none∧b1f H a C d bare∧((d=none∧fs=[])∨∃ dd ws,d=some dd∧S dd=none∧H dd=some (.xd ws)∧a1Q g S H fs ws)
def a0e (g:Gd) (S:SS) (H:Hp):List D→List V→Prop
 | [],vs=>vs=[]
 | d :: ds,vs=>∃ v r,vs=v :: r∧Rep g S H d v∧a0e g S H ds r
def a0L (g:Gd) (S:SS) (H:Hp):List (Key × D)→List (Key × V)→Prop
 | [],ws=>ws=[]
 | (k,d) :: r,ws=>∃ v q,ws=(k,v) :: q∧Rep g S H d v∧a0L g S H r q
def a1Q (g:Gd) (S:SS) (H:Hp):List (Str × D)→List (Str × V)→Prop
 | [],ws=>ws=[]
 | (k,d) :: r,ws=>∃ v q,ws=(k,v) :: q∧Rep g S H d v∧a1Q g S H r q
end
structure PostW (S:SS) (H:Hp) (S':SS) (H':Hp):Prop where
 kp:∀ p o,S p=none→H p=some o→H' p=some o
 fr:∀ a,S' a≠none→S a≠none∨H a=none
structure a0d (S:SS) (H:Hp) (S':SS) (H':Hp):Prop extends PostW S H S' H' where
 lk:∀ p k o,S p=some (.loc k)→H p=some o→S' p=some (.loc k)∧H' p=some o
def Cell.free:Cell→Bool
 | .loc _=>false | _=>true
theorem a0d.refl (S:SS) (H:Hp):a0d S H S H:=⟨⟨fun _ _ _ h=>h,fun _ h=>.inl h⟩,fun _ _ _ h q=>⟨h,q⟩⟩
theorem PostW.none_of {S:SS} {H:Hp} {S':SS} {H':Hp} (P:PostW S H S' H') {p:Addr} {o:HO} (h:S p=none) (e:H p=some o):S' p=none:=by
 cases q:S' p with
 | none=>rfl
 | some c =>
  rcases P.fr p (by rw [q];exact fun z=>nomatch z) with z | z
  ·exact absurd h z
  ·rw [e] at z;cases z
theorem PostW.trans {S:SS} {H:Hp} {S1:SS} {H1:Hp} {S2:SS} {H2:Hp} (a:PostW S H S1 H1) (b:PostW S1 H1 S2 H2):PostW S H S2 H2:=by
 refine ⟨fun p o h e=>b.kp p o (a.none_of h e) (a.kp p o h e),fun x h=>?_⟩
 rcases b.fr x h with z | z
 ·exact a.fr x z
 ·cases q:S x with
  | some c=>exact .inl (fun z=>nomatch z)
  | none =>
   cases r:H x with
   | none=>exact .inr rfl
   | some o =>
    rw [a.kp x o q r] at z
    cases z
theorem a0d.trans {S:SS} {H:Hp} {S1:SS} {H1:Hp} {S2:SS} {H2:Hp} (a:a0d S H S1 H1) (b:a0d S1 H1 S2 H2):a0d S H S2 H2 :=
 ⟨a.toPostW.trans b.toPostW,fun p k o h e=>have ⟨h1,e1⟩:=a.lk p k o h e;b.lk p k o h1 e1⟩
section
variable {g:Gd} {S S':SS} {H H':Hp}
theorem Rd.kpW {p:Addr} {u:HO} (P:PostW S H S' H') (h:S p=none) (r:Rd H p u):Rd H' p u:=by
 rcases r with r | ⟨o,r⟩
 ·exact .inl (P.kp _ _ h r)
 ·exact .inr ⟨o,P.kp _ _ h r⟩
theorem Rd.none'W {p:Addr} {u:HO} (P:PostW S H S' H') (h:S p=none) (r:Rd H p u):S' p=none:=by
 rcases r with r | ⟨o,r⟩
 ·exact P.none_of h r
 ·exact P.none_of h r
theorem LstAt.monoW {p:Addr} {vs:List V} (P:PostW S H S' H') (h:LstAt g S H p vs):LstAt g S' H' p vs:=by
 rcases h with ⟨h,r⟩ | h
 ·exact .inl ⟨Rd.none'W P h r,Rd.kpW P h r⟩
 ·exact .inr h
theorem TupAt.monoW {p:Addr} {vs:List V} (P:PostW S H S' H') (h:TupAt g S H p vs):TupAt g S' H' p vs:=by
 rcases h with ⟨h,r⟩ | h
 ·exact .inl ⟨P.none_of h r,P.kp _ _ h r⟩
 ·exact .inr h
theorem b2U {p:Addr} {vs:List V} (h:SqL g.K noH p vs):SqL g.K H p vs:=by
 rcases h with h | h
 ·rcases h with h | ⟨o,h⟩ <;> cases h
 ·exact .inr h
theorem b2V {p:Addr} {vs:List V} (h:SqT g.K noH p vs):SqT g.K H p vs:=by
 rcases h with h | h
 ·rcases h with h | ⟨o,h⟩ <;> cases h
 ·exact .inr h
theorem LstAt.sq {p:Addr} {vs:List V} (h:LstAt g S H p vs):SqL g.K H p vs:=by
 rcases h with ⟨h,r⟩ | h
 ·exact .inl r
 ·exact b2U h
theorem TupAt.sq {p:Addr} {vs:List V} (h:TupAt g S H p vs):SqT g.K H p vs:=by
 rcases h with ⟨h,r⟩ | h
 ·exact .inl (.inl r)
 ·exact b2V h
mutual
theorem Rep.monoW (P:PostW S H S' H'):∀ {d:D} {v:V},Rep g S H d v→Rep g S' H' d v
 | .non,_,h=>by simp only [Rep] at h ⊢;exact h
 | .bl _,_,h=>by simp only [Rep] at h ⊢;exact h
 | .int _,_,h=>by simp only [Rep] at h ⊢;exact h
 | .str _,_,h=>by simp only [Rep] at h ⊢;exact h
 | .lst ds,_,h=>by
  simp only [Rep] at h ⊢
  obtain ⟨p,vs,e,a,r⟩:=h
  exact ⟨p,vs,e,a.monoW P,a0e.monoW P r⟩
 | .tup ds,_,h=>by
  simp only [Rep] at h ⊢
  obtain ⟨p,vs,e,a,r⟩:=h
  exact ⟨p,vs,e,a.monoW P,a0e.monoW P r⟩
 | .dic kvs,_,h=>by
  simp only [Rep] at h ⊢
  obtain ⟨p,ws,e,a,b,r⟩:=h
  exact ⟨p,ws,e,P.none_of a b,P.kp _ _ a b,a0L.monoW P r⟩
 | .obj _,_,h=>by simp only [Rep] at h ⊢;exact h
 | .exc a oe C fs,_,h=>by
  simp only [Rep] at h ⊢
  obtain ⟨d,e,x,r⟩:=h
  refine ⟨d,e,x,?_⟩
  rcases r with r | ⟨dd,ws,e1,n,q,r⟩
  ·exact .inl r
  ·exact .inr ⟨dd,ws,e1,P.none_of n q,P.kp _ _ n q,a1Q.monoW P r⟩
 | .err a C fs bare,_,h=>by
  simp only [Rep] at h ⊢
  obtain ⟨d,e,n,⟨φ,here,says⟩,r⟩:=h
  refine ⟨d,e,P.none_of n here,⟨φ,P.kp _ _ n here,says⟩,?_⟩
  rcases r with r | ⟨dd,ws,e1,n,q,r⟩
  ·exact .inl r
  ·exact .inr ⟨dd,ws,e1,P.none_of n q,P.kp _ _ n q,a1Q.monoW P r⟩
theorem a0e.monoW (P:PostW S H S' H'):∀ {ds:List D} {vs:List V},a0e g S H ds vs→a0e g S' H' ds vs
 | [],_,h=>by simp only [a0e] at h ⊢;exact h
 | d :: ds,_,h=>by
  simp only [a0e] at h ⊢
  obtain ⟨v,r,e,a,b⟩:=h
  exact ⟨v,r,e,Rep.monoW P a,a0e.monoW P b⟩
theorem a0L.monoW (P:PostW S H S' H'):∀ {ds:List (Key × D)} {vs:List (Key × V)},a0L g S H ds vs→a0L g S' H' ds vs
 | [],_,h=>by simp only [a0L] at h ⊢;exact h
 | (k,d) :: ds,_,h=>by
  simp only [a0L] at h ⊢
  obtain ⟨v,r,e,a,b⟩:=h
  exact ⟨v,r,e,Rep.monoW P a,a0L.monoW P b⟩
theorem a1Q.monoW (P:PostW S H S' H'):∀ {ds:List (Str × D)} {vs:List (Str × V)},a1Q g S H ds vs→a1Q g S' H' ds vs
 | [],_,h=>by simp only [a1Q] at h ⊢;exact h
 | (k,d) :: ds,_,h=>by
  simp only [a1Q] at h ⊢
  obtain ⟨v,r,e,a,b⟩:=h
  exact ⟨v,r,e,Rep.monoW P a,a1Q.monoW P b⟩
end
theorem LstAt.mono {p:Addr} {vs:List V} (P:a0d S H S' H') (h:LstAt g S H p vs):LstAt g S' H' p vs:=h.monoW P.toPostW
theorem Rep.mono (P:a0d S H S' H') {d:D} {v:V} (h:Rep g S H d v):Rep g S' H' d v:=h.monoW P.toPostW
theorem a0e.mono (P:a0d S H S' H') {ds:List D} {vs:List V} (h:a0e g S H ds vs):a0e g S' H' ds vs:=h.monoW P.toPostW
theorem a0L.mono (P:a0d S H S' H') {ds:List (Key × D)} {vs:List (Key × V)} (h:a0L g S H ds vs):a0L g S' H' ds vs:=h.monoW P.toPostW
theorem a1Q.mono (P:a0d S H S' H') {ds:List (Str × D)} {vs:List (Str × V)} (h:a1Q g S H ds vs):a1Q g S' H' ds vs:=h.monoW P.toPostW
def a1o (g:Gd) (S:SS) (H:Hp) (a:Addr):Cell→Prop
 | .lst ds=>∃ vs,H a=some (.lst vs)∧a0e g S H ds vs
 | .dic kvs=>∃ ws,H a=some (.dK ws)∧a0L g S H kvs ws
 | .loc kvs=>∃ ws o,H a=some (.frz o (.dK ws))∧a0L g S H kvs ws
 | .ins C fs=>∃ dx ws,H a=some (.ins C dx ws)∧a1Q g S H fs ws
def CellsOk (g:Gd) (S:SS) (H:Hp):Prop:=∀ a c,S a=some c→a1o g S H a c
theorem a1o.there {a:Addr} {c:Cell} (h:a1o g S H a c):∃ o,H a=some o:=by
 cases c with
 | lst _=>obtain ⟨_,e,_⟩:=h;exact ⟨_,e⟩
 | dic _=>obtain ⟨_,e,_⟩:=h;exact ⟨_,e⟩
 | loc _=>obtain ⟨_,_,e,_⟩:=h;exact ⟨_,e⟩
 | ins _ _=>obtain ⟨_,_,e,_⟩:=h;exact ⟨_,e⟩
theorem a1o.monoW {a:Addr} {c:Cell} (P:PostW S H S' H') (e:H' a=H a) (h:a1o g S H a c):a1o g S' H' a c:=by
 cases c with
 | lst _=>obtain ⟨x,q,r⟩:=h;exact ⟨x,by rw [e];exact q,r.monoW P⟩
 | dic _=>obtain ⟨x,q,r⟩:=h;exact ⟨x,by rw [e];exact q,r.monoW P⟩
 | loc _=>obtain ⟨x,y,q,r⟩:=h;exact ⟨x,y,by rw [e];exact q,r.monoW P⟩
 | ins _ _=>obtain ⟨x,y,q,r⟩:=h;exact ⟨x,y,by rw [e];exact q,r.monoW P⟩
theorem a1o.mono {a:Addr} {c:Cell} (P:a0d S H S' H') (e:H' a=H a) (h:a1o g S H a c):a1o g S' H' a c:=h.monoW P.toPostW e
theorem CellsOk.free (h:CellsOk g S H) {p:Addr} (e:H p=none):S p=none:=by
 cases q:S p with
 | none=>rfl
 | some c =>
  obtain ⟨o,z⟩:=(h p c q).there
  rw [e] at z;cases z
theorem a0d.new {p:Addr} {o:HO} (e:H p=none):a0d S H S (upd H p o) :=
 ⟨⟨fun q u _ z=>by rw [upd_ne (ne_of_none z e)];exact z,fun _ h=>.inl h⟩,fun q k u h z=>⟨h,by rw [upd_ne (ne_of_none z e)];exact z⟩⟩
theorem CellsOk.new {p:Addr} {o:HO} (h:CellsOk g S H) (e:H p=none):CellsOk g S (upd H p o):=fun a c q=>by
 obtain ⟨u,z⟩:=(h a c q).there
 exact (h a c q).mono (a0d.new e) (upd_ne (ne_of_none z e))
theorem a0d.newC {p:Addr} {o:HO} {c:Cell} (e:H p=none):a0d S H (S.set p c) (upd H p o) :=
 ⟨⟨fun q u _ z=>by rw [upd_ne (ne_of_none z e)];exact z,fun a h=>by
  by_cases q:a=p
  ·exact .inr (q ▸ e)
  ·rw [zaa q] at h;exact .inl h⟩,fun q k u h z=>⟨by rw [zaa (ne_of_none z e)];exact h,by rw [upd_ne (ne_of_none z e)];exact z⟩⟩
theorem CellsOk.newC {p:Addr} {o:HO} {c:Cell} (h:CellsOk g S H) (e:H p=none) (hc:a1o g (S.set p c) (upd H p o) p c):CellsOk g (S.set p c) (upd H p o):=fun a d q=>by
 by_cases z:a=p
 ·subst z;rw [zab] at q;cases q;exact hc
 ·rw [zaa z] at q
  exact (h a d q).mono (a0d.newC e) (upd_ne z)
theorem PostW.write {a:Addr} {o:HO} {c c0:Cell} (e:S a=some c0):PostW S H (S.set a c) (upd H a o) :=
 ⟨fun q u n z=>by rw [upd_ne (fun y=>by rw [y,e] at n;cases n)];exact z,fun b h=>by
  by_cases q:b=a
  ·exact .inl (by rw [q,e];exact fun z=>nomatch z)
  ·rw [zaa q] at h;exact .inl h⟩
theorem a0d.write {a:Addr} {o:HO} {c c0:Cell} (e:S a=some c0) (fr:c0.free=true:=by rfl):a0d S H (S.set a c) (upd H a o) :=
 ⟨.write e,fun q k u h z=>by
  have apart:q≠a:=fun y=>by rw [y,e] at h;cases h;cases fr
  exact ⟨by rw [zaa apart];exact h,by rw [upd_ne apart];exact z⟩⟩
theorem CellsOk.writeW {a:Addr} {o:HO} {c c0:Cell} (h:CellsOk g S H) (e:S a=some c0) (hc:a1o g (S.set a c) (upd H a o) a c):CellsOk g (S.set a c) (upd H a o):=fun b d q=>by
 by_cases z:b=a
 ·subst z;rw [zab] at q;cases q;exact hc
 ·rw [zaa z] at q
  exact (h b d q).monoW (.write e) (upd_ne z)
theorem CellsOk.write {a:Addr} {o:HO} {c c0:Cell} (h:CellsOk g S H) (e:S a=some c0) (hc:a1o g (S.set a c) (upd H a o) a c):CellsOk g (S.set a c) (upd H a o):=h.writeW e hc
theorem a0d.freeze {a:Addr} {c:Cell} (e:S a=some c) (fr:c.free=true:=by rfl):a0d S H (S.del a) H :=
 ⟨⟨fun _ _ _ z=>z,fun b h=>by
  by_cases q:b=a
  ·rw [q,SS.del_same] at h;exact absurd rfl h
  ·rw [SS.del_ne q] at h;exact .inl h⟩,fun q k u h z=>⟨by rw [SS.del_ne (fun y=>by rw [y,e] at h;cases h;cases fr)];exact h,z⟩⟩
theorem CellsOk.freeze {a:Addr} {c:Cell} (h:CellsOk g S H) (e:S a=some c) (fr:c.free=true:=by rfl):CellsOk g (S.del a) H:=fun b d q=>by
 by_cases z:b=a
 ·rw [z,SS.del_same] at q;cases q
 ·rw [SS.del_ne z] at q
  exact (h b d q).mono (a0d.freeze e fr) rfl
theorem Rep.freeze {a:Addr} {ds:List D} (h:CellsOk g S H) (e:S a=some (.lst ds)):Rep g (S.del a) H (.lst ds) (.ref a):=by
 obtain ⟨vs,q,r⟩:=h a _ e
 simp only [Rep]
 exact ⟨a,vs,rfl,.inl ⟨SS.del_same,.inl q⟩,r.mono (a0d.freeze e)⟩
theorem Rep.freezeK {a:Addr} {ds:List (Key × D)} (h:CellsOk g S H) (e:S a=some (.dic ds)):Rep g (S.del a) H (.dic ds) (.ref a):=by
 obtain ⟨vs,q,r⟩:=h a _ e
 simp only [Rep]
 exact ⟨a,vs,rfl,SS.del_same,q,r.mono (a0d.freeze e)⟩
theorem CellsOk.lock {a:Addr} {kvs:List (Key × D)} {ws:List (Key × V)} {o:Obj} (h:CellsOk g S H) (e:S a=some (.dic kvs)) (at_a:H a=some (.dK ws)) (r:a0L g S H kvs ws):CellsOk g (S.set a (.loc kvs)) (upd H a (.frz o (.dK ws))) :=
 h.writeW e ⟨ws,o,upd_same,r.mono (a0d.write e)⟩
theorem PostW.unlock {a:Addr} {kvs:List (Key × D)} {ws:List (Key × V)} {o:Obj} (e:S a=some (.dic kvs)) (P:a0d (S.set a (.loc kvs)) (upd H a (.frz o (.dK ws))) S' H'):S' a=some (.loc kvs)∧H' a=some (.frz o (.dK ws)) :=
 P.lk a kvs _ zab upd_same
theorem a0d.unlock {a:Addr} {kvs:List (Key × D)} {ws:List (Key × V)} {o:Obj} (e:S a=some (.dic kvs)) (P:a0d (S.set a (.loc kvs)) (upd H a (.frz o (.dK ws))) S' H'):a0d S H (S'.set a (.dic kvs)) (upd H' a (.dK ws)) :=
 ⟨(PostW.write e).trans (P.toPostW.trans (.write (PostW.unlock e P).1)),fun q k u h z=>by
  have apart:q≠a:=fun y=>by rw [y,e] at h;cases h
  have:=P.lk q k u (by rw [zaa apart];exact h) (by rw [upd_ne apart];exact z)
  exact ⟨by rw [zaa apart];exact this.1,by rw [upd_ne apart];exact this.2⟩⟩
theorem CellsOk.unlock {a:Addr} {kvs:List (Key × D)} {ws:List (Key × V)} {o:Obj} (e:S a=some (.dic kvs)) (r:a0L g S H kvs ws) (P:a0d (S.set a (.loc kvs)) (upd H a (.frz o (.dK ws))) S' H') (h:CellsOk g S' H'):CellsOk g (S'.set a (.dic kvs)) (upd H' a (.dK ws)) :=
 h.writeW (PostW.unlock e P).1 ⟨ws,upd_same,r.mono (a0d.unlock e P)⟩
abbrev DS:=List (Option D)
structure a5O (g:Gd) (S:SS) (H:Hp) (δ:DS) (σ:L2.St):Prop where
 len:δ.length=σ.length
 at_:∀ (i:Nat) d,δ[i]?=some (some d)→∃ v,σ[i]?=some (some v)∧Rep g S H d v
theorem a5O.mono {δ:DS} {σ:L2.St} (P:a0d S H S' H') (h:a5O g S H δ σ):a5O g S' H' δ σ:=⟨h.len,fun i d e =>
 let ⟨v,e1,r⟩:=h.at_ i d e
 ⟨v,e1,r.mono P⟩⟩
theorem a5O.set {δ:DS} {σ:L2.St} {i:Nat} {d:D} {v:V} (h:a5O g S H δ σ) (r:Rep g S H d v):a5O g S H (δ.set i (some d)) (σ.set i (some v)):=by
 refine ⟨by rw [List.length_set,List.length_set,h.len],fun j e q=>?_⟩
 by_cases hj:i=j
 ·subst hj
  by_cases hi:i < δ.length
  ·rw [List.getElem?_set_self hi] at q
   cases q
   exact ⟨v,List.getElem?_set_self (by rw [← h.len];exact hi),r⟩
  ·rw [List.getElem?_eq_none (by simpa using hi)] at q;cases q
 ·rw [List.getElem?_set_ne hj] at q
  obtain ⟨w,e1,r1⟩:=h.at_ j e q
  exact ⟨w,by rw [List.getElem?_set_ne hj];exact e1,r1⟩
theorem a5O.setN {δ:DS} {σ:L2.St} {i:Nat} {x:Option V} (h:a5O g S H δ σ):a5O g S H (δ.set i none) (σ.set i x):=by
 refine ⟨by rw [List.length_set,List.length_set,h.len],fun j e q=>?_⟩
 by_cases hj:i=j
 ·subst hj
  by_cases hi:i < δ.length
  ·rw [List.getElem?_set_self hi] at q;cases q
  ·rw [List.getElem?_eq_none (by simpa using hi)] at q;cases q
 ·rw [List.getElem?_set_ne hj] at q
  obtain ⟨w,e1,r1⟩:=h.at_ j e q
  exact ⟨w,by rw [List.getElem?_set_ne hj];exact e1,r1⟩
theorem a5O.start {N:List Str}:∀ {ds:List D} {vs:List V},a0e g S H ds vs→a5O g S H (ds.map some ++ List.replicate (N.length - ds.length) none) (L2.start N vs):=by
 have key:∀ (n:Nat) (ds:List D) (vs:List V),a0e g S H ds vs→a5O g S H (ds.map some ++ List.replicate n none) (vs.map some ++ List.replicate n none):=by
  intro n ds
  induction ds with
  | nil =>
   intro vs h
   simp only [a0e] at h
   subst h
   refine ⟨by simp,fun i d e=>?_⟩
   simp only [List.map_nil,List.nil_append,List.getElem?_replicate] at e
   split at e <;> cases e
  | cons d ds ih =>
   intro vs h
   simp only [a0e] at h
   obtain ⟨v,r,e,a,b⟩:=h
   subst e
   have q:=ih r b
   refine ⟨by simpa using q.len,fun i x e=>?_⟩
   cases i with
   | zero=>cases e;exact ⟨v,rfl,a⟩
   | succ i=>exact q.at_ i x e
 intro ds vs h
 have hl:ds.length=vs.length:=by
  induction ds generalizing vs with
  | nil=>simp only [a0e] at h;subst h;rfl
  | cons d ds ih =>
   simp only [a0e] at h
   obtain ⟨v,r,e,a,b⟩:=h
   subst e
   rw [zaz,zaz,ih b]
 unfold L2.start
 rw [← hl]
 exact key _ _ _ h
structure Rel (g:Gd) (S:SS) (H:Hp) (δ:DS) (σ:L2.St):Prop where
 sl:a5O g S H δ σ
 ce:CellsOk g S H
end
end Sv
namespace Sv
open PySem PySem.Spec PyProof.Rows L2
open L2H (RoomH Hot1 PinOk)
def c02 (A:Around) (outer:List Env) (H:Hp) (s:Shared):Option (Addr × Obj)→Prop
 | none=>A.handled=none
 | some p=>Hot1 A p∧PinOk outer H s p
def Mode (A:Around) (outer:List Env) (H:Hp) (s:Shared) (m:Option (Addr × Obj)):Prop:=A.guards=some []∧c02 A outer H s m
abbrev SpM:=Option (Addr × Obj)→Sp
structure FnG (P:Program) (w:World) (K:zbj) (mg:Str→Option Value) (base:Heap) (hot:Bool) (k:Nat) (f:Addr) (fd:FuncData) (ps:List Str) (sp:SpM):Prop where
 len:∀ m vs H Q E,m.isSome=hot→sp m vs H Q E→vs.length=ps.length
 run:∀ (A:Around) (outer:List Env) (s:Shared) (H:Hp) (args:Args) (us:List Value) (vs:List V) (Q:VK) (E:XK) (m:Option (Addr × Obj)),m.isSome=hot→RoomH k A→Mode A outer H s m→Env0 P w K mg base A outer s H →
  BindsTo s fd args (ps.zip us)→Vals vs us→sp m vs H Q E→codeAny (model P w) A (.call (.ref f) args) (CR (L2N.CX P w) outer P w H s Q E) s
theorem FnG.mono {P:Program} {w:World} {K:zbj} {mg:Str→Option Value} {base:Heap} {hot:Bool} {j k:Nat} {f:Addr} {fd:FuncData} {ps:List Str} {sp:SpM} (F:FnG P w K mg base hot j f fd ps sp) (h:j≤k) :
  FnG P w K mg base hot k f fd ps sp:=⟨F.len,fun A outer s H args us vs Q E m hm hr=>F.run A outer s H args us vs Q E m hm (hr.mono h)⟩
theorem FnG.imp {P:Program} {w:World} {K:zbj} {mg:Str→Option Value} {base:Heap} {hot:Bool} {k:Nat} {f:Addr} {fd:FuncData} {ps:List Str} {sp sp':SpM} (F:FnG P w K mg base hot k f fd ps sp)
  (h:∀ m vs H Q E,sp' m vs H Q E→sp m vs H Q E):FnG P w K mg base hot k f fd ps sp' :=
 ⟨fun m vs H Q E z q=>F.len m vs H Q E z (h _ _ _ _ _ q),fun A outer s H args us vs Q E m hm hr hM he hb hv hs=>F.run A outer s H args us vs Q E m hm hr hM he hb hv (h _ _ _ _ _ hs)⟩
def cxM (P:Program) (w:World) (K:zbj) (mg:Str→Option Value) (base:Heap) (N:List Str) (qual:Str) (scope:Scope) (f:Addr) (cd:Value) (A:Around) (outer:List Env) (s:Shared) (H:Hp) (E:XK) (m:Option (Addr × Obj)):Cx :=
 { cxOf (L2N.CX P w) P w K mg base N qual scope f cd A outer s H E with calm:=m.isNone,pn:=m.toList }
theorem a7C {P:Program} {w:World} {K:zbj} {mg:Str→Option Value} {base:Heap} {N ps:List Str} {qual:Str} {scope:Scope} {f:Addr} {cd:Value} {A:Around} {outer:List Env} {s s1:Shared} {H:Hp} {E:XK} {us:List Value} {vs:List V}
  (S:FnScope N ps scope) {m:Option (Addr × Obj)} (hM:Mode A outer H s m) (e0:Env0 P w K mg base A outer s H) (hl:vs.length=ps.length) (r:Vals vs us)
  (x:InCallC s s.heap.objs.size (bindL (envOfC qual scope s.heap.objs.size f cd).kindOf (ps.zip us) (fun _=>none)) (cellsFrom (s.heap.objs.size + 1) scope.names []) (bindC (envOfC qual scope s.heap.objs.size f cd).kindOf (ps.zip us) (fun _=>none)) s1) :
  Inv (cxM P w K mg base N qual scope f cd A outer s H E m) [] (L2.start N vs) H s1:=by
 cases m with
 | none=>exact L2.inv_start S hM.2 e0 hl r x
 | some p=>exact L2H.inv_startH S hM.2.2 e0 hl r x
theorem a89 {N ps:List Str} {scope:Scope} {us:List Value} {n:Nat} (S:FnScope N ps scope) (y:Str × Value) (hy:y∈ps.zip us) :
  scope.names.lookup y.1=some .local∨(scope.names.lookup y.1=some .cell∧((cellsFrom n scope.names []).lookup y.1).isSome=true) :=
 (S.par y.1 (List.of_mem_zip (show (y.1,y.2)∈ps.zip us from hy)).1).imp id fun c=>⟨c,PySem.W.cellsFrom_some _ _ _ (.inl c)⟩
theorem a7A {P:Program} {w:World} {K:zbj} {mg:Str→Option Value} {base:Heap} {N:List Str} {qual:Str} {scope:Scope} {f:Addr} {cd:Value} {A:Around} {outer:List Env} {s:Shared} {H:Hp} {Q:VK} {E:XK} {m:Option (Addr × Obj)} :
  ∀ (fl:Flow) (t:Shared),SP (cxM P w K mg base N qual scope f cd A outer s H E m) [] { nx:=fun _ H1=>Q .non H1,rt:=Q } fl t →
   match fl with
   | .ret u=>CE outer P w H s Q u t
   | .next=>CE outer P w H s Q .none t
   | _=>False
 | .ret _,_,⟨v,_,H1,I,rv,q⟩=>⟨v,H1,I.os,I.bare,I.base,I.hok,rv,q⟩
 | .next,_,⟨_,H1,I,q⟩=>⟨.non,H1,I.os,I.bare,I.base,I.hok,rfl,q⟩
 | .brk,_,⟨_,_,_,q⟩=>q
 | .cont,_,⟨_,_,_,q⟩=>q
theorem b0X {P:Program} {w:World} {K:zbj} {mg:Str→Option Value} {base:Heap} {hot:Bool} {k:Nat} {f:Addr} {name qual:Str} {params:Arguments} {body:List Stmt} {scope:Scope} {dV kV doc pm cdv ct oc:Value} {an od:Option Addr}
  {osl:Array (Option Value)} {N ps:List Str} {sp:SpM} (at_f:K.lookup f=some ⟨oc,od,.func (PySem.W.fnOf name qual params body scope dV kV doc pm an cdv ct),osl⟩) (at_cd:PySem.W.codeIn K cdv qual=true) (S:FnScope N ps scope)
  (len:∀ m vs H Q E,m.isSome=hot→sp m vs H Q E→vs.length=ps.length)
  (hbody:∀ (A:Around) (outer:List Env) (s:Shared) (H:Hp) (vs:List V) (Q:VK) (E:XK) (m:Option (Addr × Obj)),m.isSome=hot→Mode A outer H s m→RoomH k (A.deeper (envOfC qual scope s.heap.objs.size f cdv))→sp m vs H Q E →
   ∃ t,PSs (cxM P w K mg base N qual scope f cdv A outer s H E m) body t∧t { nx:=fun _ H'=>Q .non H',rt:=Q } (L2.start N vs) H) :
  FnG P w K mg base hot (k + 1) f (PySem.W.fnOf name qual params body scope dV kV doc pm an cdv ct) ps sp where
 len:=len
 run A outer s H args us vs Q E m hm hr hM e0 hb r hsp:=by
  have grown:∀ {b o},base.get? b=some o→s.heap.get? b=some o:=fun {b o} e=>(e0.bs b o e).1
  have inK:K.In s.heap:=e0.mod.kin.keeps fun _ _=>grown
  apply codeAny_call_function hr.depth (inK _ _ at_f) rfl S.co S.gen rfl (PySem.W.codeRec_of inK at_cd)
  apply hb
  apply wpAny_newFunctionEnv_cells S.kind (a89 S)
  rintro _ rfl s1 laid
  obtain ⟨t,walks,wants⟩:=hbody A outer s H vs Q E m hm hM (hr.deeper _) hsp
  have I0:=a7C (E:=E) S hM e0 (len _ _ _ _ _ hm hsp) r laid
  refine ⟨(e0.mod.nolimit.keeps fun _ _=>grown).keeps laid.toInCall.keep,codeAny_func (wpAny_mono (walks.run _ _ _ _ _ I0 wants) (fun fl t ended=>?_) fun _ _ x=>x)⟩
  have told:=a7A fl t ended
  cases fl <;> first | exact told | exact told.elim
def b1h (X:Cx):Option (Addr × Obj)→Prop
 | none=>X.calm=true
 | some p=>Hot1 X.A p∧p∈X.pn
def a02 (X:Cx) (m:Option (Addr × Obj)):Prop:=X.A.guards=some []∧b1h X m
theorem b1h.at {X:Cx} {m0:Option (Addr × Obj)} {pins:List (Addr × Obj)} {σ:L2.St} {H:Hp} {s:Shared} (c:b1h X m0) (I:Inv X pins σ H s):c02 X.A X.stack H s m0:=by
 match m0,c with
 | none,c=>exact I.ok.hd c
 | some p,⟨h,hp⟩ =>
  have ⟨get,free,noLoc,noFs,noCell⟩:=I.pin p (zar pins hp)
  refine ⟨h,get,free,fun z=>?_,noCell⟩
  rcases zau.mp (I.stkSub _ z) with z | z
  ·exact noLoc z
  ·exact noFs z
theorem a02.at {X:Cx} {m0:Option (Addr × Obj)} {pins:List (Addr × Obj)} {σ:L2.St} {H:Hp} {s:Shared} (c:a02 X m0) (I:Inv X pins σ H s):Mode X.A X.stack H s m0:=⟨c.1,c.2.at I⟩
section
variable {X:Cx} {hot:Bool} {m0:Option (Addr × Obj)} {k:Nat} {f:Addr} {fd:FuncData} {ps:List Str} {sp:SpM} {dvs:List V} {ds:List Value} {E:L2.St→XK} {x:Str} {q pos:Pos} {e:Expr} {es:List Expr} {t:TA}
theorem a6t {pins:List (Addr × Obj)} {σ:L2.St} {H:Hp} {s:Shared} {Q:VK} {us:List Value} {vs:List V} (F:FnG X.prog X.w X.K X.mg X.base hot k f fd ps sp) (hh:m0.isSome=hot) (room:RoomH k X.A) (mode:a02 X m0) (binds:L2.Binds X.K fd ps ds) (hd:Vals dvs ds)
  (out:PassesAt (L2N.CX X.prog X.w) X σ (E σ)) (I:Inv X pins σ H s) (rv:Vals vs us) (want:sp m0 (vs ++ dvs) H Q (E σ)):wpAny (model X.prog X.w) X.A (call (.ref f) us) (EP X pins σ Q) X.xe s:=by
 have all:=rv.append hd
 have whole:=F.run X.A X.stack s H ⟨us,[]⟩ (us ++ ds) _ Q (E σ) m0 hh room (mode.at I) I.env0 (binds s us I.kIn (all.length ▸ F.len _ _ _ _ _ hh want)) all want
 apply wpAny_call
 refine codeAny_mono whole ?_
 rintro (err | (_ | u | _ | _)) s' told
 ·exact out _ _ _ _ _ I told
 all_goals first | exact I.after told | exact told.elim
def tCallG (m0:Option (Addr × Obj)) (sp:SpM) (dvs:List V) (E:L2.St→XK) (t:TA):TE:=fun σ H Q=>t σ H fun vs H1=>sp m0 (vs ++ dvs) H1 Q (E σ)
structure Named (X:Cx) (x:Str) (f:Addr):Prop where
 gl:Gl X x
 mg:X.mg x=some (.ref f)
 kp:PySem.W.keepIn X.K (.ref f)=true
 db:(x == ("__debug__" : Str))=false
theorem pe_callG (F:FnG X.prog X.w X.K X.mg X.base hot k f fd ps sp) (hh:m0.isSome=hot) (room:RoomH k X.A) (mode:a02 X m0) (nm:Named X x f) (binds:L2.Binds X.K fd ps ds) (hd:Vals dvs ds)
  (out:∀ σ,PassesAt (L2N.CX X.prog X.w) X σ (E σ)) (args:PA X (e :: es) t) (plain:starEach (e :: es) X.env=(false,eval e X.env) :: starEach es X.env) (rest:(backTo pos (starEach es X.env)).any (·.1)=false) :
  PE X (.Call (.Name x q) (e :: es) [] pos) (tCallG m0 sp dvs E t) where
 run pins s σ H Q I want:=wpAny_Call_Name_kw (ld_glob I nm.gl nm.mg (PySem.W.callWith_K (h₀:=X.base) I.ok.mod.kin nm.kp
  (thn (args.run pos pins s σ H _ I want) fun _ _ ⟨_,_,J,rv,go⟩=>⟨J.kIn,a6t F hh room mode binds hd (out σ) J rv go⟩) plain rest) nm.db)
theorem a9a (F:FnG X.prog X.w X.K X.mg X.base hot k f fd ps sp) (hh:m0.isSome=hot) (room:RoomH k X.A) (mode:a02 X m0) (nm:Named X x f) (binds:L2.Binds X.K fd ps ds) (hd:Vals dvs ds) (out:∀ σ,PassesAt (L2N.CX X.prog X.w) X σ (E σ)) :
  PE X (.Call (.Name x q) [] [] pos) (tCallG m0 sp dvs E tNil) where
 run pins s σ H Q I want:=wpAny_Call_Name_kw (ld_glob I nm.gl nm.mg (PySem.W.callWith_K0 I.kIn nm.kp (a6t F hh room mode binds hd (out σ) I .nil want)) nm.db)
end
end Sv
namespace Sv
open PySem PySem.Spec PyProof.Rows L2
abbrev DK:=D→SS→Prop
section
variable {α β:Type} {F:α→β→Prop}
theorem a5C {xs:List α} {us:List β} (h:Paired F xs us):∃ ps:List {p:α × β // F p.1 p.2},ps.map (fun p=>p.1.1)=xs∧ps.map (fun p=>p.1.2)=us:=by
 induction h with
 | nil=>exact ⟨[],rfl,rfl⟩
 | cons r _ more =>
  obtain ⟨ps,rfl,rfl⟩:=more
  exact ⟨⟨(_,_),r⟩ :: ps,rfl,rfl⟩
theorem b2M (ps:List {p:α × β // F p.1 p.2}):Paired F (ps.map fun p=>p.1.1) (ps.map fun p=>p.1.2):=by
 induction ps with
 | nil=>exact .nil
 | cons p ps more=>exact .cons p.2 more
theorem a3D (f:∀ {γ:Type},List γ→List γ) (nat:∀ {γ δ:Type} (h:γ→δ) (l:List γ),f (l.map h)=(f l).map h) {xs:List α} {us:List β} (r:Paired F xs us):Paired F (f xs) (f us):=by
 obtain ⟨ps,rfl,rfl⟩:=a5C r
 rw [nat,nat]
 exact b2M _
theorem a9g {xs:List α} {us:List β} {i:Nat} {x:α} (r:Paired F xs us) (e:xs[i]?=some x):∃ u,us[i]?=some u∧F x u:=by
 obtain ⟨ps,rfl,rfl⟩:=a5C r
 rw [zbh] at e
 rw [zbh]
 cases at_i:ps[i]? with
 | none=>rw [at_i] at e;exact nomatch e
 | some p =>
  rw [at_i] at e
  cases e
  exact ⟨p.1.2,rfl,p.2⟩
theorem b5x {x:α} {u:β} (r:F x u) {xs:List α} {us:List β} (i:Nat) (rs:Paired F xs us):Paired F (xs.set i x) (us.set i u):=by
 obtain ⟨ps,rfl,rfl⟩:=a5C rs
 have put:=b2M (ps.set i ⟨(x,u),r⟩)
 rwa [List.map_set,List.map_set] at put
theorem a5B {xs ys:List α} {us ws:List β} (r:Paired F xs us) (q:Paired F ys ws):Paired F (xs ++ ys) (us ++ ws):=by
 obtain ⟨ps,rfl,rfl⟩:=a5C r
 obtain ⟨qs,rfl,rfl⟩:=a5C q
 rw [← zav,← zav]
 exact b2M _
theorem b2N {xs:List α} {us:List β} (n:Nat):Paired F xs us→Paired F (xs.take n) (us.take n):=a3D (fun l=>l.take n) fun h l=>List.map_take.symm
theorem b2L {xs:List α} {us:List β} (n:Nat):Paired F xs us→Paired F (xs.drop n) (us.drop n):=a3D (fun l=>l.drop n) fun h l=>List.map_drop.symm
theorem a7K {xs:List α} {us:List β}:Paired F xs us→Paired F xs.reverse us.reverse:=a3D List.reverse fun h l=>List.map_reverse.symm
theorem a6r {xs:List α} {us:List β}:Paired F xs us→Paired F xs.dropLast us.dropLast:=a3D List.dropLast fun h l=>List.map_dropLast.symm
end
section
variable {g:Gd} {S S':SS} {H H':Hp}
abbrev RP (g:Gd) (S:SS) (H:Hp):List D→List V→Prop:=Paired fun d v=>Rep g S H d v
theorem a2S:∀ {ds:List D} {vs:List V},a0e g S H ds vs→RP g S H ds vs
 | [],_,h=>by simp only [a0e] at h;subst h;exact .nil
 | d :: ds,_,h=>by
  simp only [a0e] at h
  obtain ⟨v,r,e,a,b⟩:=h
  subst e
  exact .cons a (a2S b)
theorem a3y:∀ {ds:List D} {vs:List V},RP g S H ds vs→a0e g S H ds vs
 | _,_,.nil=>by simp only [a0e]
 | _,_,.cons a b=>by simp only [a0e];exact ⟨_,_,rfl,a,a3y b⟩
abbrev RPK (g:Gd) (S:SS) (H:Hp):List (Key × D)→List (Key × V)→Prop:=Paired fun d v=>d.1=v.1∧Rep g S H d.2 v.2
theorem a0R:∀ {ds:List (Key × D)} {vs:List (Key × V)},a0L g S H ds vs→RPK g S H ds vs
 | [],_,h=>by simp only [a0L] at h;subst h;exact .nil
 | (k,d) :: ds,_,h=>by
  simp only [a0L] at h
  obtain ⟨v,r,e,a,b⟩:=h
  subst e
  exact .cons ⟨rfl,a⟩ (a0R b)
theorem a81:∀ {ds:List (Key × D)} {vs:List (Key × V)},RPK g S H ds vs→a0L g S H ds vs
 | _,_,.nil=>by simp only [a0L]
 | (k,d) :: _,(k',v) :: _,.cons a b=>by
  obtain ⟨e,a⟩:=a
  cases e
  simp only [a0L]
  exact ⟨v,_,rfl,a,a81 b⟩
theorem a0e.length {ds:List D} {vs:List V} (h:a0e g S H ds vs):ds.length=vs.length:=Paired.length (a2S h)
theorem a0e.get {ds:List D} {vs:List V} (h:a0e g S H ds vs) {i:Nat} {d:D} (e:ds[i]?=some d):∃ v,vs[i]?=some v∧Rep g S H d v:=a9g (a2S h) e
theorem a0e.append {ds es:List D} {vs us:List V} (h:a0e g S H ds vs) (h':a0e g S H es us):a0e g S H (ds ++ es) (vs ++ us):=a3y (a5B (a2S h) (a2S h'))
theorem a0e.take {ds:List D} {vs:List V} (h:a0e g S H ds vs) (n:Nat):a0e g S H (ds.take n) (vs.take n):=a3y (b2N n (a2S h))
theorem a0e.drop {ds:List D} {vs:List V} (h:a0e g S H ds vs) (n:Nat):a0e g S H (ds.drop n) (vs.drop n):=a3y (b2L n (a2S h))
theorem a0e.set {ds:List D} {vs:List V} (h:a0e g S H ds vs) {i:Nat} {d:D} {v:V} (r:Rep g S H d v):a0e g S H (ds.set i d) (vs.set i v):=a3y (b5x r i (a2S h))
theorem a0e.reverse {ds:List D} {vs:List V} (h:a0e g S H ds vs):a0e g S H ds.reverse vs.reverse:=a3y (a7K (a2S h))
theorem a0e.at {ds:List D} {vs:List V} (h:a0e g S H ds vs) {i:Int} {d:D} (e:atI ds i=some d):∃ v,atI vs i=some v∧Rep g S H d v:=by
 unfold atI at e ⊢
 rw [← h.length]
 cases q:ixN ds.length i with
 | none=>rw [q] at e;cases e
 | some j =>
  rw [q] at e
  exact h.get e
def vw (S:SS):D→D
 | .obj a=>match S a with
  | some (.lst ds)=>.lst ds
  | some (.dic k)=>.dic k
  | some (.loc k)=>.dic k
  | _=>.obj a
 | d=>d
def dv (S:SS):Nat→D→D
 | 0,d=>d
 | n + 1,d=>match vw S d with
  | .lst ds=>.lst (ds.map (dv S n))
  | .tup ds=>.tup (ds.map (dv S n))
  | d=>d
theorem a0k {d:D} {ds:List D} {v:V} (hc:CellsOk g S H) (r:Rep g S H d v) (e:vw S d=.lst ds):∃ p vs,v=.ref p∧SqL g.K H p vs∧a0e g S H ds vs:=by
 cases d with
 | lst xs =>
  have e':D.lst xs=.lst ds:=e
  cases e'
  simp only [Rep] at r
  obtain ⟨p,vs,e1,a,b⟩:=r
  exact ⟨p,vs,e1,a.sq,b⟩
 | obj a =>
  simp only [Rep] at r
  have e':(match S a with | some (.lst ds)=>D.lst ds | some (.dic k)=>.dic k | some (.loc k)=>.dic k | _=>.obj a)=.lst ds:=e
  cases q:S a with
  | none=>rw [q] at e';cases e'
  | some c =>
   rw [q] at e'
   cases c with
   | lst xs =>
    cases e'
    obtain ⟨vs,h1,h2⟩:=hc a _ q
    exact ⟨a,vs,r,.inl (.inl h1),h2⟩
   | _=>cases e'
 | _=>cases e
theorem a0C {d:D} {ds:List D} {v:V} (r:Rep g S H d v) (e:vw S d=.tup ds):∃ p vs,v=.ref p∧SqT g.K H p vs∧a0e g S H ds vs:=by
 cases d with
 | tup xs =>
  have e':D.tup xs=.tup ds:=e
  cases e'
  simp only [Rep] at r
  obtain ⟨p,vs,e1,a,b⟩:=r
  exact ⟨p,vs,e1,a.sq,b⟩
 | obj a =>
  have e':(match S a with | some (.lst ds)=>D.lst ds | some (.dic k)=>.dic k | some (.loc k)=>.dic k | _=>.obj a)=.tup ds:=e
  cases q:S a with
  | none=>rw [q] at e';cases e'
  | some c =>
   rw [q] at e'
   cases c <;> cases e'
 | _=>cases e
theorem a1g {d:D} {ds:List (Key × D)} {v:V} (hc:CellsOk g S H) (r:Rep g S H d v) (e:vw S d=.dic ds):∃ p vs,v=.ref p∧Rd H p (.dK vs)∧a0L g S H ds vs:=by
 cases d with
 | dic xs =>
  have e':D.dic xs=.dic ds:=e
  cases e'
  simp only [Rep] at r
  obtain ⟨p,vs,e1,_,a,b⟩:=r
  exact ⟨p,vs,e1,.inl a,b⟩
 | obj a =>
  simp only [Rep] at r
  have e':(match S a with | some (.lst ds)=>D.lst ds | some (.dic k)=>.dic k | some (.loc k)=>.dic k | _=>.obj a)=.dic ds:=e
  cases q:S a with
  | none=>rw [q] at e';cases e'
  | some c =>
   rw [q] at e'
   cases c with
   | dic xs =>
    cases e'
    obtain ⟨vs,h1,h2⟩:=hc a _ q
    exact ⟨a,vs,r,.inl h1,h2⟩
   | loc xs =>
    cases e'
    obtain ⟨vs,o,h1,h2⟩:=hc a _ q
    exact ⟨a,vs,r,.inr ⟨o,h1⟩,h2⟩
   | _=>cases e'
 | _=>cases e
theorem a2U {d x:D} {v:V} (r:Rep g S H d v) (e:vw S d=x) (h:∀ ds,x≠.lst ds) (h2:∀ ds,x≠.dic ds):Rep g S H x v:=by
 cases d with
 | obj a =>
  have e':(match S a with | some (.lst ds)=>D.lst ds | some (.dic k)=>.dic k | some (.loc k)=>.dic k | _=>.obj a)=x:=e
  cases q:S a with
  | none=>rw [q] at e';subst e';exact r
  | some c =>
   rw [q] at e'
   cases c with
   | lst xs=>subst e';exact absurd rfl (h _)
   | dic xs=>subst e';exact absurd rfl (h2 _)
   | loc xs=>subst e';exact absurd rfl (h2 _)
   | ins _ _=>subst e';exact r
 | _=>subst e;exact r
def Res (g:Gd) (S:SS) (H:Hp) (K:DK) (Q:VK):Prop:=∀ d S' v H',K d S'→a0d S H S' H'→CellsOk g S' H'→Rep g S' H' d v→Q v H'
theorem Res.val {K:DK} {Q:VK} {d:D} {v:V} (r:Res g S H K Q) (k:K d S) (hc:CellsOk g S H) (h:Rep g S H d v):Q v H:=r d S v H k (a0d.refl _ _) hc h
theorem Res.int {K:DK} {Q:VK} {i:Int} (r:Res g S H K Q) (k:K (.int i) S) (hc:CellsOk g S H):Q (.int i) H:=r.val k hc (by simp only [Rep])
theorem Res.bl {K:DK} {Q:VK} {i:Bool} (r:Res g S H K Q) (k:K (.bl i) S) (hc:CellsOk g S H):Q (.bl i) H:=r.val k hc (by simp only [Rep])
theorem Res.str {K:DK} {Q:VK} {i:Str} (r:Res g S H K Q) (k:K (.str i) S) (hc:CellsOk g S H):Q (.str i) H:=r.val k hc (by simp only [Rep])
theorem Res.non {K:DK} {Q:VK} (r:Res g S H K Q) (k:K .non S) (hc:CellsOk g S H):Q .non H:=r.val k hc (by simp only [Rep])
theorem Res.lst {K:DK} {Q:VK} {ds:List D} {vs:List V} {p:Addr} (r:Res g S H K Q) (k:K (.lst ds) S) (hc:CellsOk g S H) (h:a0e g S H ds vs) (e:H p=none):Q (.ref p) (upd H p (.lst vs)) :=
 r _ S _ _ k (a0d.new e) (hc.new e) (by simp only [Rep];exact ⟨p,vs,rfl,.inl ⟨hc.free e,.inl upd_same⟩,h.mono (a0d.new e)⟩)
theorem Res.tup {K:DK} {Q:VK} {ds:List D} {vs:List V} {p:Addr} (r:Res g S H K Q) (k:K (.tup ds) S) (hc:CellsOk g S H) (h:a0e g S H ds vs) (e:H p=none):Q (.ref p) (upd H p (.tup vs)) :=
 r _ S _ _ k (a0d.new e) (hc.new e) (by simp only [Rep];exact ⟨p,vs,rfl,.inl ⟨hc.free e,upd_same⟩,h.mono (a0d.new e)⟩)
theorem Res.dic {K:DK} {Q:VK} {ds:List (Key × D)} {vs:List (Key × V)} {p:Addr} (r:Res g S H K Q) (k:K (.dic ds) S) (hc:CellsOk g S H) (h:a0L g S H ds vs) (e:H p=none):Q (.ref p) (upd H p (.dK vs)) :=
 r _ S _ _ k (a0d.new e) (hc.new e) (by simp only [Rep];exact ⟨p,vs,rfl,hc.free e,upd_same,h.mono (a0d.new e)⟩)
theorem Res.lstC {K:DK} {Q:VK} {ds:List D} {vs:List V} {p:Addr} (r:Res g S H K Q) (k:∀ p,S p=none→K (.obj p) (S.set p (.lst ds))) (hc:CellsOk g S H) (h:a0e g S H ds vs) (e:H p=none):Q (.ref p) (upd H p (.lst vs)) :=
 r _ _ _ _ (k p (hc.free e)) (a0d.newC e) (hc.newC e ⟨vs,upd_same,h.mono (a0d.newC e)⟩) (by simp only [Rep])
theorem Res.dicC {K:DK} {Q:VK} {ds:List (Key × D)} {vs:List (Key × V)} {p:Addr} (r:Res g S H K Q) (k:∀ p,S p=none→K (.obj p) (S.set p (.dic ds))) (hc:CellsOk g S H) (h:a0L g S H ds vs) (e:H p=none):Q (.ref p) (upd H p (.dK vs)) :=
 r _ _ _ _ (k p (hc.free e)) (a0d.newC e) (hc.newC e ⟨vs,upd_same,h.mono (a0d.newC e)⟩) (by simp only [Rep])
def rD2 (g:Gd) (t:D→D→SS→DK→Prop):R2:=fun v u H Q=>∃ x y S K,CellsOk g S H∧Rep g S H x v∧Rep g S H y u∧t x y S K∧Res g S H K Q
def rDc (g:Gd) (t:List D→SS→DK→Prop):List V→Hp→VK→Prop:=fun vs H Q=>∃ xs S K,CellsOk g S H∧a0e g S H xs vs∧t xs S K∧Res g S H K Q
def rDm (g:Gd) (t:D→List D→SS→DK→Prop):V→List V→Hp→VK→Prop:=fun v vs H Q=>∃ x xs S K,CellsOk g S H∧Rep g S H x v∧a0e g S H xs vs∧t x xs S K∧Res g S H K Q
end
def b2w (x y:D) (S:SS) (Q:DK):Prop:=match vw S x,vw S y with
 | .int i,.int j=>Q (.int (i + j)) S
 | .str a,.str b=>a.length + b.length≤sizeLine∧Q (.str (a ++ b)) S
 | .lst a,.lst b=>a.length + b.length≤sizeLine∧Q (.lst (a ++ b)) S
 | .tup a,.tup b=>a.length + b.length≤sizeLine∧Q (.tup (a ++ b)) S
 | _,_=>False
def b1q (x y:D) (S:SS) (Q:DK):Prop:=match vw S x,vw S y with
 | .lst a,.lst b=>a.length + b.length≤sizeLine∧∀ p,S p=none→Q (.obj p) (S.set p (.lst (a ++ b)))
 | _,_=>False
def b2B (x y:D) (S:SS) (Q:DK):Prop:=match x,y with
 | .int i,.int j=>Q (.int (i - j)) S
 | _,_=>False
def b5A (z:Str) (k:Nat):Str:=⟨(List.replicate k z.cps).foldl (· ++ ·) #[]⟩
def b2z (x y:D) (S:SS) (Q:DK):Prop:=match x,y with
 | .int i,.int j=>(CMul i j∨CMulW i j)∧Q (.int (i * j)) S
 | .lst xs,.int k=>-(2 ^ 63)≤k∧k < 2 ^ 63∧xs.length * k.toNat≤sizeLine∧Q (.lst (List.replicate k.toNat xs).flatten) S
 | .str z,.int k=>2≤k∧k < 1000∧0 < z.length∧z.length * k.toNat≤1000000∧Q (.str (b5A z k.toNat)) S
 | _,_=>False
def b2x (x y:D) (S:SS) (Q:DK):Prop:=match x,y with
 | .int i,.int j=>CDivW i j∧Q (.int (i / j)) S
 | _,_=>False
def b2y (x y:D) (S:SS) (Q:DK):Prop:=match x,y with
 | .int i,.int j=>0 < j∧Q (.int (i % j)) S
 | _,_=>False
def b2A (x y:D) (S:SS) (Q:DK):Prop:=match x,y with
 | .int i,.int j=>CPow i j∧Q (.int (i ^ j.toNat)) S
 | _,_=>False
def opD:Operator→D→D→SS→DK→Prop
 | .Add=>b2w | .Sub=>b2B | .Mult=>b2z | .FloorDiv=>b2x | .Mod=>b2y | .Pow=>b2A | _=>fun _ _ _ _=>False
section
variable {X:Cx} {g:Gd}
theorem a83:OpR X (binaryOp .Add) (fun x y H Q=>∃ l b xs zs,x=.ref l∧y=.ref b∧SqL X.K H l xs∧SqL X.K H b zs∧xs.length + zs.length≤sizeLine∧∀ p,H p=none→Q (.ref p) (upd H p (.lst (xs ++ zs)))):=by
 intro pins s σ H x y v u Q I rx ry h
 obtain ⟨l,b,xs,zs,rfl,rfl,hl,hb,hz,q⟩:=h
 cases rx
 cases ry
 obtain ⟨its,r1,p1,z1⟩:=I.list hl
 obtain ⟨its2,r2,p2,z2⟩:=I.list hb
 obtain ⟨⟨cls,dd,data,sl⟩,n,ho,hc,hdd,hd⟩:=p1
 obtain ⟨⟨cls2,dd2,data2,sl2⟩,n2,ho2,hc2,hdd2,hd2⟩:=p2
 simp only at hc hd hc2 hd2
 subst hc hd hc2 hd2
 have e1:=r1.length
 have e2:=r2.length
 have e:its.toArray ++ its2.toArray=(its ++ its2).toArray:=by simp
 refine PySem.concat_meets ⟨_,ho,rfl⟩ ⟨_,ho2,rfl⟩ PySem.noFill_list_add PySem.seq_list_add PySem.F.slot_list_add PySem.F.entry_list_add (PySem.F.args_list_add_2 _ _) (list_addW l b its.toArray its2.toArray n n2 dd dd2 sl sl2 (by simpa [← e1,← e2] using hz)) ⟨ho,ho2,?_⟩
 rw [e]
 exact ⟨.ref _,_,I.lnew (t':=s.toks) (r1.append r2) (by rw [zaw];omega),rfl,q _ I.fresh⟩
theorem b2C:OpR X (binaryOp .Mult) (fun x y H Q=>∃ l k xs,x=.ref l∧y=.int k∧SqL X.K H l xs∧-(2 ^ 63)≤k∧k < 2 ^ 63∧xs.length * k.toNat≤sizeLine∧∀ p,H p=none→Q (.ref p) (upd H p (.lst (List.replicate k.toNat xs).flatten))):=by
 intro pins s σ H x y v u Q I rx ry h
 obtain ⟨l,k,xs,rfl,rfl,hl,lo,hi,few,q⟩:=h
 cases rx
 obtain ⟨t,rfl⟩:=ry
 obtain ⟨its,rv,pl,z⟩:=I.list hl
 obtain ⟨⟨cls,dd,data,sl⟩,n,ho,hc,hdd,hd⟩:=pl
 simp only at hc hd
 subst hc hd
 have len:=rv.length
 have few':its.toArray.size * k.toNat≤sizeLine:=by rw [List.size_toArray,← len];exact few
 have cap:(sizeLine:Nat)≤(2 ^ 63 - 1) / 8:=by decide
 have flat:List.foldl (fun x1 x2=>x1 ++ x2) #[] (List.replicate (if its.toArray.isEmpty=true then 0 else k.toNat) its.toArray)=(List.replicate k.toNat its).flatten.toArray:=by
  have go:∀ m:Nat,List.foldl (fun x1 x2=>x1 ++ x2) #[] (List.replicate m its.toArray)=(List.replicate m its).flatten.toArray:=fun m=>by
   have:=foldl_rep its m []
   rwa [List.nil_append] at this
  rw [go]
  cases its with
  | nil=>simp
  | cons a r=>rw [if_neg (by simp)]
 refine wpAny_binaryOp_repeat_ref (T := "list") (U := "int") (by decide) ⟨_,ho,rfl⟩ (fun s'=>typeIs_int s' k t) noFill_list_mul F.fills_int_mul F.slot_int_rmul repeat_list F.slot_int_index.lookup
  (call_meets F.slot_int_rmul (typeIs_int s k t) F.entry_int_rmul (F.args_int_rmul_2 _ _) (lm_int_rmul_list_any k t l its.toArray n dd sl)
   ⟨ho,rfl,⟨_,ho,rfl⟩,call_meets F.slot_list_mul ⟨_,ho,rfl⟩ F.entry_list_mul (F.args_list_mul_2 _ _) (lm_list_mul_any l its.toArray n dd sl k t (by rw [fitsIndex_both lo hi];exact zbe) (by omega) (by rw [notLongL few'];exact zbe)) ⟨ho,?_⟩⟩)
 rw [flat]
 exact ⟨.ref _,_,I.lnew (t':=s.toks) (rv.rep k.toNat) (by rw [PyProof.Rows.lm_len_rep_flat,Nat.mul_comm];exact few),rfl,q _ I.fresh⟩
theorem a5e (a:Array Nat):∀ (n:Nat) (acc:Array Nat),((List.replicate n a).foldl (· ++ ·) acc).size=acc.size + n * a.size
 | 0,acc=>by simp
 | n + 1,acc=>by
  rw [List.replicate_succ,List.foldl_cons,a5e a n,Array.size_append,Nat.succ_mul]
  omega
theorem b0x (z:Str) (n:Nat):(b5A z n).length=z.length * n:=by
 show ((List.replicate n z.cps).foldl (· ++ ·) #[]).size=z.cps.size * n
 rw [a5e,Nat.mul_comm]
 simp
theorem b2D:OpR X (binaryOp .Mult) (fun x y H Q=>∃ z k,x=.str z∧y=.int k∧2≤k∧k < 1000∧0 < z.length∧z.length * k.toNat≤1000000∧Q (.str (b5A z k.toNat)) H):=by
 intro pins s σ H x y v u Q I rx ry h
 obtain ⟨z,k,rfl,rfl,lo,hi,ln,few,q⟩:=h
 obtain ⟨t,rfl⟩:=rx
 obtain ⟨t',rfl⟩:=ry
 have big:(2:Int) ^ 63=9223372036854775808:=by decide
 refine PySem.P.mul_str ?_ (fun _ _=>?_) (fun _ _=>?_) ?_
 ·rw [zbf (by omega),zbf (by omega)];rfl
 ·have e:=Int.toNat_of_nonneg (show 0≤k by omega)
  have hk:0 < k:=by omega
  have e2:(z.length:Int) * k=((z.length * k.toNat:Nat):Int):=by rw [Int.natCast_mul,e]
  rw [show ((2:Int) ^ 63 - 1)=9223372036854775807 by decide]
  have h2:(z.length:Int)≤9223372036854775807 / k:=by
   rw [Int.le_ediv_iff_mul_le hk,e2]
   omega
  omega
 ·unfold Builtin.Str.tooLong
  simp only [decide_eq_false_iff_not]
  have:(sizeLine:Nat)=16777216:=rfl
  omega
 ·rw [if_neg (by omega),if_neg (by
   rw [Bool.or_eq_true,not_or]
   refine ⟨fun e=>?_,fun e=>?_⟩
   ·have:=eq_of_beq e
    omega
   ·have:=eq_of_beq e
    omega)]
  refine ⟨?_,.str (b5A z k.toNat),H,I.tok _,⟨_,rfl⟩,q⟩
  have:=b0x z k.toNat
  have e:(sizeLine:Nat)=16777216:=rfl
  show (b5A z k.toNat).length≤sizeLine
  omega
theorem a0e.rep {g:Gd} {S:SS} {H:Hp} {ds:List D} {vs:List V} (h:a0e g S H ds vs):∀ k:Nat,a0e g S H (List.replicate k ds).flatten (List.replicate k vs).flatten
 | 0=>by simp only [List.replicate_zero,List.flatten_nil,a0e]
 | k + 1=>by
  rw [List.replicate_succ,List.replicate_succ,List.flatten_cons,List.flatten_cons]
  exact h.append (a0e.rep h k)
theorem a0f {S:SS} {H:Hp} {i:Int} {v:V} (h:Rep g S H (.int i) v):v=.int i:=by simpa only [Rep] using h
theorem a2A {S:SS} {H:Hp} {i:Bool} {v:V} (h:Rep g S H (.bl i) v):v=.bl i:=by simpa only [Rep] using h
theorem a0u {S:SS} {H:Hp} {i:Str} {v:V} (h:Rep g S H (.str i) v):v=.str i:=by simpa only [Rep] using h
theorem a4J {S:SS} {H:Hp} {v:V} (h:Rep g S H .non v):v=.non:=by simpa only [Rep] using h
theorem a0q {S:SS} {H:Hp} {a:Addr} {v:V} (h:Rep g S H (.obj a) v):v=.ref a:=by simpa only [Rep] using h
theorem a7r {S:SS} {H:Hp} {d:D} {i:Int} {v:V} (r:Rep g S H d v) (e:vw S d=.int i):v=.int i:=a0f (a2U r e (fun _ z=>nomatch z) (fun _ z=>nomatch z))
theorem b6y {S:SS} {H:Hp} {d:D} {i:Bool} {v:V} (r:Rep g S H d v) (e:vw S d=.bl i):v=.bl i:=a2A (a2U r e (fun _ z=>nomatch z) (fun _ z=>nomatch z))
theorem a2E {S:SS} {H:Hp} {d:D} {i:Str} {v:V} (r:Rep g S H d v) (e:vw S d=.str i):v=.str i:=a0u (a2U r e (fun _ z=>nomatch z) (fun _ z=>nomatch z))
theorem b1d {S:SS} {H:Hp} {d:D} {v:V} (r:Rep g S H d v) (e:vw S d=.non):v=.non:=a4J (a2U r e (fun _ z=>nomatch z) (fun _ z=>nomatch z))
theorem b3F (hK:g.K=X.K):OpR X (binaryOp .Add) (rD2 g b1q):=by
 intro pins s σ H v1 v2 u1 u2 Q I r1 r2 h
 obtain ⟨x,y,S,K,hc,p1,p2,ht,res⟩:=h
 unfold b1q at ht
 split at ht
 ·rename_i a b e1 e2
  obtain ⟨p,vs,rfl,hl,hr⟩:=a0k hc p1 e1
  obtain ⟨q,us,rfl,hl2,hr2⟩:=a0k hc p2 e2
  rw [hK] at hl hl2
  exact a83 pins s σ H _ _ _ _ Q I r1 r2 ⟨p,q,vs,us,rfl,rfl,hl,hl2,by rw [← hr.length,← hr2.length];exact ht.1,fun r hn=>res.lstC ht.2 hc (hr.append hr2) hn⟩
 ·exact ht.elim
theorem b5j (hK:g.K=X.K):∀ op:Operator,OpR X (binaryOp op) (rD2 g (opD op)):=by
 intro op pins s σ H v1 v2 u1 u2 Q I r1 r2 h
 obtain ⟨x,y,S,K,hc,p1,p2,ht,res⟩:=h
 cases op with
 | Add =>
  change b2w x y S K at ht
  unfold b2w at ht
  split at ht
  ·rename_i i j e1 e2
   cases a7r p1 e1
   cases a7r p2 e2
   exact op_add pins s σ H _ _ _ _ Q I r1 r2 ⟨i,j,rfl,rfl,res.int ht hc⟩
  ·rename_i i j e1 e2
   cases a2E p1 e1
   cases a2E p2 e2
   exact op_add_str pins s σ H _ _ _ _ Q I r1 r2 ⟨i,j,rfl,rfl,ht.1,res.str ht.2 hc⟩
  ·rename_i i j e1 e2
   obtain ⟨p,vs,rfl,hl,hr⟩:=a0k hc p1 e1
   obtain ⟨q,us,rfl,hl2,hr2⟩:=a0k hc p2 e2
   rw [hK] at hl hl2
   exact a83 pins s σ H _ _ _ _ Q I r1 r2 ⟨p,q,vs,us,rfl,rfl,hl,hl2,by rw [← hr.length,← hr2.length];exact ht.1,fun z hz=>res.lst ht.2 hc (hr.append hr2) hz⟩
  ·rename_i i j e1 e2
   obtain ⟨p,vs,rfl,hl,hr⟩:=a0C p1 e1
   obtain ⟨q,us,rfl,hl2,hr2⟩:=a0C p2 e2
   have hl':=hl
   have hl2':=hl2
   rw [hK] at hl hl2
   have f1:vw S x=x:=by
    cases x with
    | tup _=>rfl
    | obj a =>
     have e':(match S a with | some (.lst ds)=>D.lst ds | some (.dic k)=>.dic k | some (.loc k)=>.dic k | _=>.obj a)=.tup i:=e1
     cases q:S a with
     | none=>rw [q] at e';cases e'
     | some c=>rw [q] at e';cases c <;> cases e'
    | _=>cases e1
   have f2:vw S y=y:=by
    cases y with
    | tup _=>rfl
    | obj a =>
     have e':(match S a with | some (.lst ds)=>D.lst ds | some (.dic k)=>.dic k | some (.loc k)=>.dic k | _=>.obj a)=.tup j:=e2
     cases q:S a with
     | none=>rw [q] at e';cases e'
     | some c=>rw [q] at e';cases c <;> cases e'
    | _=>cases e2
   have g1:x=.tup i:=f1.symm.trans e1
   have g2:y=.tup j:=f2.symm.trans e2
   subst g1 g2
   refine op_catA pins s σ H _ _ _ _ Q I r1 r2 ⟨p,q,vs,us,rfl,rfl,hl,hl2,by rw [← hr.length,← hr2.length];exact ht.1,fun z=>?_,fun _ z=>?_,fun _ _ a ha=>res.tup ht.2 hc (hr.append hr2) ha⟩
   ·have hi:i=[]:=by
     have e:=hr.length
     rw [z] at e
     exact List.eq_nil_of_length_eq_zero e
    refine res.val (d:=.tup (i ++ j)) ht.2 hc ?_
    rw [hi]
    exact p2
   ·have hi:j=[]:=by
     have e:=hr2.length
     rw [z] at e
     exact List.eq_nil_of_length_eq_zero e
    refine res.val (d:=.tup (i ++ j)) ht.2 hc ?_
    rw [hi,List.append_nil]
    exact p1
  ·exact ht.elim
 | Sub =>
  change b2B x y S K at ht
  unfold b2B at ht
  split at ht
  ·rename_i i j
   cases a0f p1
   cases a0f p2
   exact op_sub pins s σ H _ _ _ _ Q I r1 r2 ⟨i,j,rfl,rfl,res.int ht hc⟩
  ·exact ht.elim
 | Mult =>
  change b2z x y S K at ht
  unfold b2z at ht
  split at ht
  ·rename_i i j
   cases a0f p1
   cases a0f p2
   rcases ht.1 with hm | hm
   ·exact op_mul pins s σ H _ _ _ _ Q I r1 r2 ⟨i,j,rfl,rfl,hm,res.int ht.2 hc⟩
   ·exact op_mulW pins s σ H _ _ _ _ Q I r1 r2 ⟨i,j,rfl,rfl,hm,res.int ht.2 hc⟩
  ·rename_i xs j
   cases a0f p2
   obtain ⟨p,vs,rfl,hl,hr⟩:=a0k hc p1 rfl
   rw [hK] at hl
   exact b2C pins s σ H _ _ _ _ Q I r1 r2 ⟨p,j,vs,rfl,rfl,hl,ht.1,ht.2.1,by rw [← hr.length];exact ht.2.2.1,fun z hz=>res.lst ht.2.2.2 hc (hr.rep _) hz⟩
  ·rename_i z j
   cases a0u p1
   cases a0f p2
   exact b2D pins s σ H _ _ _ _ Q I r1 r2 ⟨z,j,rfl,rfl,ht.1,ht.2.1,ht.2.2.1,ht.2.2.2.1,res.str ht.2.2.2.2 hc⟩
  ·exact ht.elim
 | FloorDiv =>
  change b2x x y S K at ht
  unfold b2x at ht
  split at ht
  ·rename_i i j
   cases a0f p1
   cases a0f p2
   exact op_fdivW pins s σ H _ _ _ _ Q I r1 r2 ⟨i,j,rfl,rfl,ht.1,res.int ht.2 hc⟩
  ·exact ht.elim
 | Mod =>
  change b2y x y S K at ht
  unfold b2y at ht
  split at ht
  ·rename_i i j
   cases a0f p1
   cases a0f p2
   exact op_mod pins s σ H _ _ _ _ Q I r1 r2 ⟨i,j,rfl,rfl,ht.1,res.int ht.2 hc⟩
  ·exact ht.elim
 | Pow =>
  change b2A x y S K at ht
  unfold b2A at ht
  split at ht
  ·rename_i i j
   cases a0f p1
   cases a0f p2
   exact op_pow pins s σ H _ _ _ _ Q I r1 r2 ⟨i,j,rfl,rfl,ht.1,res.int ht.2 hc⟩
  ·exact ht.elim
 | _=>exact False.elim ht
end
mutual
def D.py:D→PyData
 | .non=>.none | .bl b=>.bool b | .int i=>.int i | .str x=>.str x
 | .lst xs=>.list (D.pys xs) | .tup xs=>.tuple (D.pys xs)
 | _=>.none
def D.pys:List D→List PyData
 | []=>[] | d :: ds=>D.py d :: D.pys ds
end
mutual
def D.okd:Nat→D→Bool
 | _,.non=>true | _,.bl _=>true | _,.int _=>true | _,.str x=>PyData.strOk x
 | n,.lst xs=>decide (0 < n) && D.okds (n - 1) xs
 | n,.tup xs=>decide (0 < n) && D.okds (n - 1) xs
 | _,_=>false
def D.okds:Nat→List D→Bool
 | _,[]=>true | n,d :: ds=>D.okd n d && D.okds n ds
end
mutual
theorem a3z:∀ (d:D) (n:Nat),D.okd n d=true→d.py.canLay0=true∧d.py.depth≤n
 | .non,n,_=>by simp [D.py,PyData.canLay0,PyData.depth]
 | .bl _,n,_=>by simp [D.py,PyData.canLay0,PyData.depth]
 | .int _,n,_=>by simp [D.py,PyData.canLay0,PyData.depth]
 | .str _,n,h=>by simpa [D.py,PyData.canLay0,PyData.depth,D.okd] using h
 | .lst xs,n,h=>by
  simp only [D.okd,zak,zah] at h
  have q:=a4G xs (n - 1) h.2
  simp only [D.py,PyData.canLay0,PyData.depth]
  exact ⟨q.1,by omega⟩
 | .tup xs,n,h=>by
  simp only [D.okd,zak,zah] at h
  have q:=a4G xs (n - 1) h.2
  simp only [D.py,PyData.canLay0,PyData.depth]
  exact ⟨q.1,by omega⟩
 | .dic _,n,h=>by simp [D.okd] at h
 | .obj _,n,h=>by simp [D.okd] at h
 | .exc _ _ _ _,n,h=>by simp [D.okd] at h
 | .err _ _ _ _,n,h=>by simp [D.okd] at h
theorem a4G:∀ (ds:List D) (n:Nat),D.okds n ds=true→PyData.canLayAll0 (D.pys ds)=true∧PyData.depthAll (D.pys ds)≤n
 | [],n,_=>by simp [D.pys,PyData.canLayAll0,PyData.depthAll]
 | d :: ds,n,h=>by
  simp only [D.okds,zak] at h
  have q:=a3z d n h.1
  have q2:=a4G ds n h.2
  simp only [D.pys,PyData.canLayAll0,PyData.depthAll,zak]
  exact ⟨⟨q.1,q2.1⟩,by omega⟩
end
section
variable {X:Cx} {g:Gd} {S:SS} {H:Hp}
mutual
theorem a3T:∀ {d:D} {v:V} (n:Nat),D.okd n d=true→Rep g S H d v→Dp g.K H v d.py
 | .non,_,n,_,r=>by simp only [Rep] at r;subst r;exact .non
 | .bl _,_,n,_,r=>by simp only [Rep] at r;subst r;exact .bl _
 | .int _,_,n,_,r=>by simp only [Rep] at r;subst r;exact .int _
 | .str _,_,n,_,r=>by simp only [Rep] at r;subst r;exact .str _
 | .lst xs,_,n,h,r=>by
  simp only [D.okd,zak] at h
  simp only [Rep] at r
  obtain ⟨p,vs,rfl,a,b⟩:=r
  exact .lst a.sq (a3o (n - 1) h.2 b)
 | .tup xs,_,n,h,r=>by
  simp only [D.okd,zak] at h
  simp only [Rep] at r
  obtain ⟨p,vs,rfl,a,b⟩:=r
  exact .tup a.sq (a3o (n - 1) h.2 b)
 | .dic _,_,n,h,_=>by simp [D.okd] at h
 | .obj _,_,n,h,_=>by simp [D.okd] at h
 | .exc _ _ _ _,_,n,h,_=>by simp [D.okd] at h
 | .err _ _ _ _,_,n,h,_=>by simp [D.okd] at h
theorem a3o:∀ {ds:List D} {vs:List V} (n:Nat),D.okds n ds=true→a0e g S H ds vs→DpAll g.K H vs (D.pys ds)
 | [],_,n,_,r=>by simp only [a0e] at r;subst r;exact .nil
 | d :: ds,_,n,h,r=>by
  simp only [D.okds,zak] at h
  simp only [a0e] at r
  obtain ⟨v,q,rfl,a,b⟩:=r
  exact .cons (a3T n h.1 a) (a3o n h.2 b)
end
theorem a2K {d x:D} {v:V} (hc:CellsOk g S H) (r:Rep g S H d v) (e:vw S d=x) (h:D.okd 60 x=true):Dp g.K H v x.py:=by
 cases x with
 | lst ds =>
  obtain ⟨p,vs,rfl,hl,hr⟩:=a0k hc r e
  simp only [D.okd,zak] at h
  exact .lst hl (a3o _ h.2 hr)
 | tup ds =>
  obtain ⟨p,vs,rfl,hl,hr⟩:=a0C r e
  simp only [D.okd,zak] at h
  exact .tup hl (a3o _ h.2 hr)
 | dic ds=>simp [D.okd] at h
 | obj a=>simp [D.okd] at h
 | exc _ _ _ _=>simp [D.okd] at h
 | err _ _ _ _=>simp [D.okd] at h
 | non=>exact a3T 60 h (a2U r e (fun _ z=>nomatch z) (fun _ z=>nomatch z))
 | bl _=>exact a3T 60 h (a2U r e (fun _ z=>nomatch z) (fun _ z=>nomatch z))
 | int _=>exact a3T 60 h (a2U r e (fun _ z=>nomatch z) (fun _ z=>nomatch z))
 | str _=>exact a3T 60 h (a2U r e (fun _ z=>nomatch z) (fun _ z=>nomatch z))
theorem a7z (hc : CellsOk g S H) : ∀ (n : Nat) {d : D} {v : V} (m : Nat), D.okd m (dv S n d) = true → Rep g S H d v → Dp g.K H v (dv S n d).py
  | 0, d, v, m, h, r => a3T m h r
  | n + 1, d, v, m, h, r => by
    have all : ∀ (ds : List D) {vs : List V} (m : Nat), D.okds m (ds.map (dv S n)) = true → a0e g S H ds vs → DpAll g.K H vs (D.pys (ds.map (dv S n))) := by
      intro ds
      induction ds with
      | nil =>
        intro vs m _ r
        simp only [a0e] at r
        subst r
        exact .nil
      | cons d ds ih =>
        intro vs m h r
        simp only [zax, D.okds, zak] at h
        simp only [a0e] at r
        obtain ⟨v, q, rfl, a, b⟩ := r
        exact .cons (a7z hc n m h.1 a) (ih m h.2 b)
    cases e : vw S d with
    | lst ds =>
      have ed : dv S (n + 1) d = .lst (ds.map (dv S n)) := by simp only [dv, e]
      rw [ed] at h ⊢
      obtain ⟨p, vs, rfl, hl, hr⟩ := a0k hc r e
      simp only [D.okd, zak] at h
      exact .lst hl (all ds _ h.2 hr)
    | tup ds =>
      have ed : dv S (n + 1) d = .tup (ds.map (dv S n)) := by simp only [dv, e]
      rw [ed] at h ⊢
      obtain ⟨p, vs, rfl, hl, hr⟩ := a0C r e
      simp only [D.okd, zak] at h
      exact .tup hl (all ds _ h.2 hr)
    | dic ds => have ed : dv S (n + 1) d = .dic ds := by simp only [dv, e]
                rw [ed] at h; simp [D.okd] at h
    | obj a => have ed : dv S (n + 1) d = .obj a := by simp only [dv, e]
               rw [ed] at h; simp [D.okd] at h
    | exc a b c x => have ed : dv S (n + 1) d = .exc a b c x := by simp only [dv, e]
                     rw [ed] at h; simp [D.okd] at h
    | err a b c x => have ed : dv S (n + 1) d = .err a b c x := by simp only [dv, e]
                     rw [ed] at h; simp [D.okd] at h
    | non => have ed : dv S (n + 1) d = .non := by simp only [dv, e]
             rw [ed] at h ⊢; exact a3T m h (a2U r e (fun _ z => nomatch z) (fun _ z => nomatch z))
    | bl x => have ed : dv S (n + 1) d = .bl x := by simp only [dv, e]
              rw [ed] at h ⊢; exact a3T m h (a2U r e (fun _ z => nomatch z) (fun _ z => nomatch z))
    | int x => have ed : dv S (n + 1) d = .int x := by simp only [dv, e]
               rw [ed] at h ⊢; exact a3T m h (a2U r e (fun _ z => nomatch z) (fun _ z => nomatch z))
    | str x => have ed : dv S (n + 1) d = .str x := by simp only [dv, e]
               rw [ed] at h ⊢; exact a3T m h (a2U r e (fun _ z => nomatch z) (fun _ z => nomatch z))
theorem a0n {d:D} (h:D.okd 60 d=true):SeqAt.shaped d.py=true:=by
 have q:=a3z d 60 h
 unfold SeqAt.shaped
 rw [q.1,zbg (by omega:d.py.depth≤64)]
 rfl
end
def D.eqv (x y:D):Bool:=PyData.eqv x.py y.py
def cEq (neg:Bool) (x y:D) (S:SS) (Q:DK):Prop:=(D.okd 60 (vw S x)=true∧D.okd 60 (vw S y)=true∧Q (.bl (neg ^^ D.eqv (vw S x) (vw S y))) S)∨(∃ a b,x=.str a∧y=.str b∧Q (.bl (neg ^^ decide (a=b))) S)∨(D.okd 60 (dv S 60 x)=true∧D.okd 60 (dv S 60 y)=true∧Q (.bl (neg ^^ D.eqv (dv S 60 x) (dv S 60 y))) S)∨(∃ p kvs,x=.obj p∧S p=some (.dic kvs)∧y=.dic []∧Q (.bl (neg ^^ kvs.isEmpty)) S)∨(∃ ds es,vw S x=.lst ds∧vw S y=.lst es∧ds.length≠es.length∧Q (.bl neg) S)
def cLt (f:Int→Int→Bool) (h:List Nat→List Nat→Bool) (x y:D) (S:SS) (Q:DK):Prop:=match x,y with
 | .int i,.int j=>Q (.bl (f i j)) S
 | .str a,.str b=>Q (.bl (h a.cps.toList b.cps.toList)) S
 | _,_=>False
def keyD:D→Option Key
 | .int i=>some (.inl i) | .str x=>some (.inr x) | _=>none
def valD (kvs:List (Key × D)) (k:Key):Option D:=(kvs.find? fun kv=>decide (kv.1=k)).map (·.2)
def putD (kvs:List (Key × D)) (k:Key) (v:D):List (Key × D) :=
 if (kvs.any fun kv=>decide (kv.1=k))=true then kvs.map fun kv=>if kv.1=k then (kv.1,v) else kv else kvs ++ [(k,v)]
def a4w (kvs:List (Key × D)) (k:Key):List (Key × D):=kvs.filter fun kv=>decide (kv.1≠k)
def cIn (neg:Bool) (x y:D) (S:SS) (Q:DK):Prop:=match vw S y with
 | .lst ds=>D.okd 60 (vw S x)=true∧D.okds 59 ds=true∧Q (.bl (neg ^^ ds.any fun z=>D.eqv z (vw S x))) S
 | .tup ds=>(∃ z,x=.str z∧∃ zs:List Str,ds=zs.map D.str∧Q (.bl (neg ^^ zs.any fun y=>y == z)) S)∨(∃ z,x=.int z∧∃ zs:List Int,ds=zs.map D.int∧Q (.bl (neg ^^ zs.any fun y=>y == z)) S)
 | .str b=>match x with
  | .str a=>a.length=1∧Q (.bl (neg ^^ decide (a.cps.getD 0 0∈b.cps.toList))) S
  | _=>False
 | .dic kvs=>∃ k,keyD x=some k∧Q (.bl (neg ^^ (valD kvs k).isSome)) S
 | _=>False
def isNon:D→Bool
 | .non=>true | _=>false
def cIs (neg:Bool) (x y:D) (S:SS) (Q:DK):Prop:=match y with
 | .non=>Q (.bl (neg ^^ isNon x)) S
 | .bl b=>∃ a,x=.bl a∧Q (.bl (neg ^^ decide (a=b))) S
 | _=>False
def c06:CmpOp→D→D→SS→DK→Prop
 | .Eq=>cEq false | .NotEq=>cEq true
 | .Lt=>cLt (fun i j=>decide (i < j)) (fun a b=>decide (a < b)) | .LtE=>cLt (fun i j=>decide (i≤j)) (fun a b=>!decide (b < a))
 | .Gt=>cLt (fun i j=>decide (j < i)) (fun a b=>decide (b < a)) | .GtE=>cLt (fun i j=>decide (j≤i)) (fun a b=>!decide (a < b))
 | .In=>cIn false | .NotIn=>cIn true | .Is=>cIs false | .IsNot=>cIs true
section
variable {X:Cx} {g:Gd} {S:SS} {H:Hp}
theorem a1m {ds:List (Key × D)} {vs:List (Key × V)} (h:a0L g S H ds vs) (k:Key):(valD ds k=none∧valV vs k=none)∨∃ d v,valD ds k=some d∧valV vs k=some v∧Rep g S H d v:=by
 have q:=a0R h
 clear h
 induction q with
 | nil=>exact .inl ⟨rfl,rfl⟩
 | @cons x y l l2 r _ ih =>
  obtain ⟨k1,d1⟩:=x
  obtain ⟨k2,v2⟩:=y
  obtain ⟨e,r⟩:=r
  cases e
  by_cases z:k1=k
  ·refine .inr ⟨d1,v2,?_,valV_pos z,r⟩
   simp [valD,List.find?_cons,z]
  ·have e1:valD ((k1,d1) :: l) k=valD l k:=by simp [valD,List.find?_cons,z]
   rw [e1,valV_neg z]
   exact ih
theorem a5M {ds:List (Key × D)} {vs:List (Key × V)} (h:a0L g S H ds vs) (k:Key):(valV vs k).isSome=(valD ds k).isSome:=by
 rcases a1m h k with ⟨a,b⟩ | ⟨d,v,a,b,_⟩ <;> rw [a,b] <;> rfl
theorem a6q {ds:List (Key × D)} {vs:List (Key × V)} (h:a0L g S H ds vs) (k:Key) {d:D} {v:V} (r:Rep g S H d v):a0L g S H (putD ds k d) (putK vs k v):=by
 have q:=a0R h
 refine a81 ?_
 have ea:(ds.any fun kv=>decide (kv.1=k))=(vs.any fun kv=>decide (kv.1=k)):=by
  clear h
  induction q with
  | nil=>rfl
  | cons r _ ih=>rw [List.any_cons,List.any_cons,ih,r.1]
 unfold putD putK
 rw [ea]
 split
 ·rename_i hz
  clear h ea hz
  induction q with
  | nil=>exact .nil
  | @cons x y l l2 r1 _ ih =>
   rw [zax,zax]
   refine .cons ?_ ih
   obtain ⟨k1,d1⟩:=x
   obtain ⟨k2,v2⟩:=y
   obtain ⟨e,r1⟩:=r1
   cases e
   dsimp only
   split <;> rename_i z
   ·exact ⟨rfl,r⟩
   ·exact ⟨rfl,r1⟩
 ·exact a5B q (.cons ⟨rfl,r⟩ .nil)
end
end Sv
namespace Sv
open PySem PySem.Spec PyProof.Rows L2
def a1z:D→Bool
 | .non=>true | .bl _=>true | .int _=>true | .str _=>true | _=>false
section
variable {X:Cx} {g:Gd} {S:SS} {H:Hp}
theorem a2B {d:D} {v:V} (h:a1z d=true) (r:Rep g S H d v):flatV v=true:=by
 cases d <;> simp only [Rep] at r <;> first | (subst r;rfl) | cases h
theorem a1A:∀ {ds:List D} {vs:List V},ds.all a1z=true→a0e g S H ds vs→vs.all flatV=true
 | [],_,_,r=>by simp only [a0e] at r;subst r;rfl
 | d :: ds,_,h,r=>by
  simp only [a0e] at r
  obtain ⟨v,q,rfl,a,b⟩:=r
  rw [List.all_cons,zak] at h
  rw [List.all_cons,a2B h.1 a,a1A h.2 b];rfl
theorem a3r {d e:D} {v u:V} (h:a1z d=true) (h2:a1z e=true) (r:Rep g S H d v) (r2:Rep g S H e u):eqV v u=D.eqv d e:=by
 cases d <;> (first | (cases h;done) | skip) <;> cases e <;> (first | (cases h2;done) | skip) <;> simp only [Rep] at r r2 <;> subst r r2 <;> simp [eqV,D.eqv,D.py,PyData.eqv]
theorem a6i {x:D} {u:V} (h:a1z x=true) (rx:Rep g S H x u):∀ {ds:List D} {vs:List V},ds.all a1z=true→a0e g S H ds vs→inV u vs=ds.any fun z=>D.eqv z x
 | [],_,_,r=>by simp only [a0e] at r;subst r;rfl
 | d :: ds,_,hd,r=>by
  simp only [a0e] at r
  obtain ⟨v,q,rfl,a,b⟩:=r
  rw [List.all_cons,zak] at hd
  have ih:=a6i h rx hd.2 b
  unfold inV at ih ⊢
  rw [List.any_cons,List.any_cons,ih,a3r hd.1 h a rx]
theorem a5j {d:D} {v:V} (r:Rep g S H d v):decide (v=.non)=isNon d:=by
 cases d with
 | non=>simp only [Rep] at r;subst r;rfl
 | bl _=>simp only [Rep] at r;subst r;rfl
 | int _=>simp only [Rep] at r;subst r;rfl
 | str _=>simp only [Rep] at r;subst r;rfl
 | obj _=>simp only [Rep] at r;subst r;rfl
 | lst _=>simp only [Rep] at r;obtain ⟨_,_,rfl,_⟩:=r;rfl
 | tup _=>simp only [Rep] at r;obtain ⟨_,_,rfl,_⟩:=r;rfl
 | dic _=>simp only [Rep] at r;obtain ⟨_,_,rfl,_⟩:=r;rfl
 | exc _ _ _ _=>simp only [Rep] at r;obtain ⟨_,rfl,_⟩:=r;rfl
 | err _ _ _ _=>simp only [Rep] at r;obtain ⟨_,rfl,_⟩:=r;rfl
theorem a0V {d:D} {k:Key} {v:V} (e:keyD d=some k) (r:Rep g S H d v):v=kV k:=by
 cases d <;> first | (cases e;done) | skip
 ·simp only [Rep] at r;cases e;exact r
 ·simp only [Rep] at r;cases e;exact r
theorem a6A {d:D} {ds:List D} (e:vw S d=.tup ds):d=.tup ds:=by
 cases d with
 | tup _=>exact e
 | obj a =>
  have e':(match S a with | some (.lst ds)=>D.lst ds | some (.dic k)=>.dic k | some (.loc k)=>.dic k | _=>.obj a)=.tup ds:=e
  cases q:S a with
  | none=>rw [q] at e';cases e'
  | some c=>rw [q] at e';cases c <;> cases e'
 | _=>cases e
end
def a5b (neg:Bool) (x y:D) (S:SS) (Q:DK):Prop:=match vw S y with
 | .lst ds=>D.okd 60 (vw S x)=true∧D.okds 59 ds=true∧Q (.bl (neg ^^ ds.any fun z=>D.eqv z (vw S x))) S
 | .tup ds=>(a1z x=true∧ds.all a1z=true∧Q (.bl (neg ^^ ds.any fun z=>D.eqv z x)) S)∨(D.okd 60 (vw S x)=true∧D.okds 59 ds=true∧Q (.bl (neg ^^ ds.any fun z=>D.eqv z (vw S x))) S)
 | .str b=>match x with
  | .str a=>∃ c,a=⟨#[c]⟩∧Q (.bl (neg ^^ decide (c∈b.cps.toList))) S
  | _=>False
 | .dic kvs=>∃ k,keyD x=some k∧Q (.bl (neg ^^ (valD kvs k).isSome)) S
 | _=>False
def c1P (x y:D) (S:SS) (Q:DK):Prop:=∃ ns ms:List Int,x=.tup (ns.map D.int)∧y=.tup (ms.map D.int)∧Q (.bl (HT.lexLt ns ms)) S
def a0G:CmpOp→D→D→SS→DK→Prop
 | .In=>a5b false | .NotIn=>a5b true | .Lt=>fun x y S Q=>c06 .Lt x y S Q∨c1P x y S Q | o=>c06 o
section
variable {X:Cx} {g:Gd}
theorem a6K {op:CmpOp} {f:Int→Int→Bool} {h:List Nat→List Nat→Bool} (hi:OpR X (compareOp op) (rI0 fun i j=>.bl (f i j)))
  (hs:OpR X (compareOp op) (fun x y H Q=>∃ i j,x=.str i∧y=.str j∧Q (.bl (h i.cps.toList j.cps.toList)) H)):OpR X (compareOp op) (rD2 g (cLt f h)):=by
 intro pins s σ H v1 v2 u1 u2 Q I r1 r2 hh
 obtain ⟨x,y,S,K,hc,p1,p2,ht,res⟩:=hh
 unfold cLt at ht
 split at ht
 ·cases a0f p1
  cases a0f p2
  exact hi pins s σ H _ _ _ _ Q I r1 r2 ⟨_,_,rfl,rfl,res.bl ht hc⟩
 ·cases a0u p1
  cases a0u p2
  exact hs pins s σ H _ _ _ _ Q I r1 r2 ⟨_,_,rfl,rfl,res.bl ht hc⟩
 ·exact ht.elim
theorem a3G {S:SS} {H:Hp}:∀ (ns:List Int) {vs:List V},a0e g S H (ns.map D.int) vs→vs=ns.map V.int
 | [],_,r=>by simp only [List.map_nil,a0e] at r;exact r
 | n :: ns,_,r=>by
  simp only [zax,a0e] at r
  obtain ⟨v,q,rfl,one,more⟩:=r
  rw [a0f one,a3G ns more,zax]
theorem a6R {X:Cx} {A:Around} {s:Shared} {ks:List (Key × V)} {va vb:List (Key × Value)} (ra:KV ks va) (rb:KV [] vb) (e:va.length=vb.length):PySem.W.KeqHits A s vb va true:=by
 cases rb
 cases ra with
 | nil=>exact .nil
 | cons _ _=>cases e
theorem b6z {S:SS} {b:Addr} {l:List (Key × D)} (h:S b=some (.dic l)):vw S (.obj b)=.dic l:=by simp only [vw,h]
theorem a85 {X:Cx} (hu:X.A.units < cLine):OpR X (compareOp .Eq) (fun x y H Q=>∃ a b ks,x=.ref a∧y=.ref b∧Rd H a (.dK ks)∧Rd H b (.dK [])∧Q (.bl (ks:List (Key × V)).isEmpty) H):=by
 intro pins s σ H x y v u Q I rx ry h
 obtain ⟨a,b,ks,rfl,rfl,ea,eb,q⟩:=h
 obtain rfl:v=Value.ref a:=rx
 obtain rfl:u=Value.ref b:=ry
 obtain ⟨_,ya,va,ra,da⟩:=dk_rd I.hok ea
 obtain ⟨_,yb,vb,rb,db⟩:=dk_rd I.hok eb
 have e1:ks.length=va.length:=ra.length
 have e2:0=vb.length:=rb.length
 exact PySem.W.keq_eq (knd:=mixKind X.prog X.w) (r:=true) ya yb da db hu (fun e=>a6R (X:=X) ra rb e) (fin_bl I q (by rw [← e1,← e2];cases ks <;> simp))
theorem a87 {X:Cx} (hu:X.A.units < cLine):OpR X (compareOp .NotEq) (fun x y H Q=>∃ a b ks,x=.ref a∧y=.ref b∧Rd H a (.dK ks)∧Rd H b (.dK [])∧Q (.bl (!(ks:List (Key × V)).isEmpty)) H):=by
 intro pins s σ H x y v u Q I rx ry h
 obtain ⟨a,b,ks,rfl,rfl,ea,eb,q⟩:=h
 obtain rfl:v=Value.ref a:=rx
 obtain rfl:u=Value.ref b:=ry
 obtain ⟨_,ya,va,ra,da⟩:=dk_rd I.hok ea
 obtain ⟨_,yb,vb,rb,db⟩:=dk_rd I.hok eb
 have e1:ks.length=va.length:=ra.length
 have e2:0=vb.length:=rb.length
 exact PySem.W.keq_ne (knd:=mixKind X.prog X.w) (r:=true) ya yb da db hu (fun e=>a6R (X:=X) ra rb e) (fin_bl I q (by rw [← e1,← e2];cases ks <;> simp))
theorem a84 {X:Cx} (hu:X.A.units < cLine):OpR X (compareOp .Eq) (fun x y H Q=>∃ a b xs ys,x=.ref a∧y=.ref b∧SqL X.K H a xs∧SqL X.K H b ys∧xs.length≠ys.length∧Q (.bl false) H):=by
 intro pins s σ H x y v u Q I rx ry h
 obtain ⟨a,b,xs,ys,rfl,rfl,ea,eb,ne,q⟩:=h
 obtain rfl:v=Value.ref a:=rx
 obtain rfl:u=Value.ref b:=ry
 obtain ⟨va,ra,pa,_⟩:=I.list ea
 obtain ⟨vb,rb,pb,_⟩:=I.list eb
 have la:=ra.length
 have lb:=rb.length
 exact SeqAt.RcAt.lists_lengths pa.isList pb.isList (by rw [List.size_toArray,List.size_toArray];exact bne_iff_ne.mpr (by omega)) hu X.prog X.w _ _ (fin_bl I q rfl)
theorem a86 {X:Cx} (hu:X.A.units < cLine):OpR X (compareOp .NotEq) (fun x y H Q=>∃ a b xs ys,x=.ref a∧y=.ref b∧SqL X.K H a xs∧SqL X.K H b ys∧xs.length≠ys.length∧Q (.bl true) H):=by
 intro pins s σ H x y v u Q I rx ry h
 obtain ⟨a,b,xs,ys,rfl,rfl,ea,eb,ne,q⟩:=h
 obtain rfl:v=Value.ref a:=rx
 obtain rfl:u=Value.ref b:=ry
 obtain ⟨va,ra,pa,_⟩:=I.list ea
 obtain ⟨vb,rb,pb,_⟩:=I.list eb
 have la:=ra.length
 have lb:=rb.length
 exact SeqAt.RcNeAt.lists_lengths pa.isList pb.isList (by rw [List.size_toArray,List.size_toArray];exact bne_iff_ne.mpr (by omega)) hu X.prog X.w _ _ (fin_bl I q rfl)
theorem b5k (hu:X.A.units + 65 < cLine):OpR X (compareOp .In) (fun x y H Q=>∃ d ds,Dp X.K H x d∧Dp X.K H y (.tuple ds)∧SeqAt.shaped d=true∧SeqAt.shaped (.tuple ds)=true∧Q (.bl ((ds.any fun z=>PyData.eqv z d))) H):=by
 intro pins s σ H x y v u Q I rx ry h
 obtain ⟨d,ds,hd,he,sd,se,q⟩:=h
 obtain ⟨as,r1⟩:=Dp.reads I d x v hd rx
 obtain ⟨bs,r2⟩:=Dp.reads I (.tuple ds) y u he ry
 exact SeqAt.in_tuple_reads r2 r1 (SeqAt.canLay_of_shaped se) (SeqAt.canLay_of_shaped sd) (room_in_shaped sd hu) ⟨.bl _,H,I,rfl,q⟩
theorem a88 (hu:X.A.units + 65 < cLine):OpR X (compareOp .NotIn) (fun x y H Q=>∃ d ds,Dp X.K H x d∧Dp X.K H y (.tuple ds)∧SeqAt.shaped d=true∧SeqAt.shaped (.tuple ds)=true∧Q (.bl (!(ds.any fun z=>PyData.eqv z d))) H):=by
 intro pins s σ H x y v u Q I rx ry h
 obtain ⟨d,ds,hd,he,sd,se,q⟩:=h
 obtain ⟨as,r1⟩:=Dp.reads I d x v hd rx
 obtain ⟨bs,r2⟩:=Dp.reads I (.tuple ds) y u he ry
 exact SeqAt.notIn_tuple_reads r2 r1 (SeqAt.canLay_of_shaped se) (SeqAt.canLay_of_shaped sd) (room_in_shaped sd hu) ⟨.bl _,H,I,rfl,q⟩
theorem a2J (hK:g.K=X.K) (hu:X.A.units + 65 < cLine):∀ op:CmpOp,OpR X (compareOp op) (rD2 g (a0G op)):=by
 intro op
 cases op with
 | Eq =>
  intro pins s σ H v1 v2 u1 u2 Q I r1 r2 ⟨x,y,S,K,hc,p1,p2,ht,res⟩
  rcases ht with ⟨o1,o2,k⟩ | ⟨a,b,rfl,rfl,k⟩ | ⟨o1,o2,k⟩ | ⟨p,kvs,rfl,hp,rfl,k⟩ | ⟨ds,es,e1,e2,ne,k⟩
  case inr.inr.inr.inr =>
   obtain ⟨p',vs,rfl,hl,hr⟩:=a0k hc p1 e1
   obtain ⟨b',ws,rfl,hl2,hr2⟩:=a0k hc p2 e2
   rw [hK] at hl hl2
   exact a84 (by omega) pins s σ H _ _ _ _ Q I r1 r2 ⟨p',b',vs,ws,rfl,rfl,hl,hl2,by rw [← hr.length,← hr2.length];exact ne,res.bl k hc⟩
  case inr.inr.inr.inl =>
   obtain ⟨p',vs,rfl,hl,hr⟩:=a1g hc p1 (b6z hp)
   obtain ⟨b',ws,rfl,hl2,hr2⟩:=a1g hc p2 rfl
   have ew:ws=[]:=by simpa only [a0L] using hr2
   subst ew
   have es:vs.isEmpty=kvs.isEmpty:=by cases a0R hr <;> rfl
   rw [Bool.false_xor,← es] at k
   exact a85 (by omega) pins s σ H _ _ _ _ Q I r1 r2 ⟨p',b',vs,rfl,rfl,hl,hl2,res.bl k hc⟩
  case inr.inr.inl =>
   rw [Bool.false_xor] at k
   exact op_eqD (by omega) pins s σ H _ _ _ _ Q I r1 r2 ⟨_,_,hK ▸ a7z hc 60 60 o1 p1,hK ▸ a7z hc 60 60 o2 p2,a0n o1,a0n o2,res.bl k hc⟩
  case inr.inl =>
   cases a0u p1
   cases a0u p2
   rw [Bool.false_xor] at k
   exact op_eq pins s σ H _ _ _ _ Q I r1 r2 ⟨rfl,by rw [show decide (V.str a=V.str b)=decide (a=b) from decide_eq_decide.mpr ⟨fun h=>by cases h;rfl,fun h=>by rw [h]⟩];exact res.bl k hc⟩
  rw [Bool.false_xor] at k
  exact op_eqD (by omega) pins s σ H _ _ _ _ Q I r1 r2 ⟨_,_,hK ▸ a2K hc p1 rfl o1,hK ▸ a2K hc p2 rfl o2,a0n o1,a0n o2,res.bl k hc⟩
 | NotEq =>
  intro pins s σ H v1 v2 u1 u2 Q I r1 r2 ⟨x,y,S,K,hc,p1,p2,ht,res⟩
  rcases ht with ⟨o1,o2,k⟩ | ⟨a,b,rfl,rfl,k⟩ | ⟨o1,o2,k⟩ | ⟨p,kvs,rfl,hp,rfl,k⟩ | ⟨ds,es,e1,e2,ne,k⟩
  case inr.inr.inr.inr =>
   obtain ⟨p',vs,rfl,hl,hr⟩:=a0k hc p1 e1
   obtain ⟨b',ws,rfl,hl2,hr2⟩:=a0k hc p2 e2
   rw [hK] at hl hl2
   exact a86 (by omega) pins s σ H _ _ _ _ Q I r1 r2 ⟨p',b',vs,ws,rfl,rfl,hl,hl2,by rw [← hr.length,← hr2.length];exact ne,res.bl k hc⟩
  case inr.inr.inr.inl =>
   obtain ⟨p',vs,rfl,hl,hr⟩:=a1g hc p1 (b6z hp)
   obtain ⟨b',ws,rfl,hl2,hr2⟩:=a1g hc p2 rfl
   have ew:ws=[]:=by simpa only [a0L] using hr2
   subst ew
   have es:vs.isEmpty=kvs.isEmpty:=by cases a0R hr <;> rfl
   rw [Bool.true_xor,← es] at k
   exact a87 (by omega) pins s σ H _ _ _ _ Q I r1 r2 ⟨p',b',vs,rfl,rfl,hl,hl2,res.bl k hc⟩
  case inr.inr.inl =>
   rw [Bool.true_xor] at k
   exact op_neD (by omega) pins s σ H _ _ _ _ Q I r1 r2 ⟨_,_,hK ▸ a7z hc 60 60 o1 p1,hK ▸ a7z hc 60 60 o2 p2,a0n o1,a0n o2,res.bl k hc⟩
  case inr.inl =>
   cases a0u p1
   cases a0u p2
   rw [Bool.true_xor] at k
   exact op_ne pins s σ H _ _ _ _ Q I r1 r2 ⟨rfl,by rw [show decide (V.str a=V.str b)=decide (a=b) from decide_eq_decide.mpr ⟨fun h=>by cases h;rfl,fun h=>by rw [h]⟩];exact res.bl k hc⟩
  rw [Bool.true_xor] at k
  exact op_neD (by omega) pins s σ H _ _ _ _ Q I r1 r2 ⟨_,_,hK ▸ a2K hc p1 rfl o1,hK ▸ a2K hc p2 rfl o2,a0n o1,a0n o2,res.bl k hc⟩
 | Lt =>
  intro pins s σ H v1 v2 u1 u2 Q I r1 r2 ⟨x,y,S,K,hc,p1,p2,ht,res⟩
  rcases ht with ht | ⟨ns,ms,rfl,rfl,k⟩
  ·exact a6K (f:=fun i j=>decide (i < j)) (h:=fun a b=>decide (a < b)) op_lt op_lt_str pins s σ H v1 v2 u1 u2 Q I r1 r2 ⟨x,y,S,K,hc,p1,p2,ht,res⟩
  ·obtain ⟨a,vs,rfl,hl,hr⟩:=a0C p1 rfl
   obtain ⟨b,ws,rfl,hl2,hr2⟩:=a0C p2 rfl
   have e1:=a3G ns hr
   have e2:=a3G ms hr2
   subst e1 e2
   exact op_ltT (by omega) pins s σ H _ _ _ _ Q I r1 r2 ⟨a,b,ns,ms,rfl,rfl,hK ▸ hl,hK ▸ hl2,res.bl k hc⟩
 | LtE=>exact a6K (f:=fun i j=>decide (i≤j)) (h:=fun a b=>!decide (b < a)) op_le op_le_str
 | Gt=>exact a6K (f:=fun i j=>decide (j < i)) (h:=fun a b=>decide (b < a)) op_gt op_gt_str
 | GtE=>exact a6K (f:=fun i j=>decide (j≤i)) (h:=fun a b=>!decide (a < b)) op_ge op_ge_str
 | Is =>
  intro pins s σ H v1 v2 u1 u2 Q I r1 r2 ⟨x,y,S,K,hc,p1,p2,ht,res⟩
  change cIs false x y S K at ht
  unfold cIs at ht
  split at ht
  ·cases a4J p2
   rw [Bool.false_xor] at ht
   exact op_isN pins s σ H _ _ _ _ Q I r1 r2 ⟨rfl,by rw [a5j p1];exact res.bl ht hc⟩
  ·obtain ⟨a,rfl,ht⟩:=ht
   cases a2A p1
   cases a2A p2
   rw [Bool.false_xor] at ht
   exact op_isBl pins s σ H _ _ _ _ Q I r1 r2 ⟨_,_,rfl,rfl,res.bl ht hc⟩
  ·exact ht.elim
 | IsNot =>
  intro pins s σ H v1 v2 u1 u2 Q I r1 r2 ⟨x,y,S,K,hc,p1,p2,ht,res⟩
  change cIs true x y S K at ht
  unfold cIs at ht
  split at ht
  ·cases a4J p2
   rw [Bool.true_xor] at ht
   exact op_notN pins s σ H _ _ _ _ Q I r1 r2 ⟨rfl,by rw [a5j p1];exact res.bl ht hc⟩
  ·obtain ⟨a,rfl,ht⟩:=ht
   cases a2A p1
   cases a2A p2
   rw [Bool.true_xor] at ht
   exact op_notBl pins s σ H _ _ _ _ Q I r1 r2 ⟨_,_,rfl,rfl,res.bl ht hc⟩
  ·exact ht.elim
 | In =>
  intro pins s σ H v1 v2 u1 u2 Q I r1 r2 ⟨x,y,S,K,hc,p1,p2,ht,res⟩
  change a5b false x y S K at ht
  unfold a5b at ht
  split at ht
  ·rename_i ds e
   obtain ⟨o1,o2,k⟩:=ht
   rw [Bool.false_xor] at k
   have o3:D.okd 60 (.lst ds)=true:=by simp only [D.okd,zak];exact ⟨rfl,o2⟩
   have w:((D.pys ds).any fun z=>PyData.eqv z (vw S x).py)=ds.any fun z=>D.eqv z (vw S x):=by
    clear e o2 k o3
    induction ds with
    | nil=>rfl
    | cons a l ih=>rw [D.pys,List.any_cons,List.any_cons,ih];rfl
   exact op_inD hu pins s σ H _ _ _ _ Q I r1 r2 ⟨(vw S x).py,D.pys ds,hK ▸ a2K hc p1 rfl o1,hK ▸ a2K hc p2 e o3,a0n o1,a0n o3,by rw [w];exact res.bl k hc⟩
  ·rename_i ds e
   rcases ht with ⟨f1,f2,k⟩ | ⟨o1,o2,k⟩
   case inr =>
    rw [Bool.false_xor] at k
    have o3:D.okd 60 (.tup ds)=true:=by simp only [D.okd,zak];exact ⟨rfl,o2⟩
    have w:((D.pys ds).any fun z=>PyData.eqv z (vw S x).py)=ds.any fun z=>D.eqv z (vw S x):=by
     clear e o2 k o3
     induction ds with
     | nil=>rfl
     | cons a l ih=>rw [D.pys,List.any_cons,List.any_cons,ih];rfl
    exact b5k hu pins s σ H _ _ _ _ Q I r1 r2 ⟨(vw S x).py,D.pys ds,hK ▸ a2K hc p1 rfl o1,hK ▸ a2K hc p2 e o3,a0n o1,a0n o3,by rw [w];exact res.bl k hc⟩
   obtain ⟨p,vs,rfl,hl,hr⟩:=a0C p2 e
   rw [hK] at hl
   rw [Bool.false_xor] at k
   exact op_in_seq pins s σ H _ _ _ _ Q I r1 r2 ⟨p,vs,rfl,.inr hl,a2B f1 p1,a1A f2 hr,by rw [a6i f1 p1 f2 hr];exact res.bl k hc⟩
  ·rename_i b e
   cases a2E p2 e
   split at ht
   ·obtain ⟨c,rfl,k⟩:=ht
    cases a0u p1
    rw [Bool.false_xor] at k
    exact op_in_sign pins s σ H _ _ _ _ Q I r1 r2 ⟨c,b,rfl,rfl,res.bl k hc⟩
   ·exact ht.elim
  ·rename_i kvs e
   obtain ⟨k,ek,q⟩:=ht
   obtain ⟨p,vs,rfl,hl,hr⟩:=a1g hc p2 e
   cases a0V ek p1
   cases (show u2=Value.ref p from r2)
   rw [Bool.false_xor] at q
   exact d_in (by omega) I (.inl ⟨vs,k,hl,rfl,rfl⟩) r1 fun s' I'=>⟨.bl _,H,I',rfl,by rw [a5M hr];exact res.bl q hc⟩
  ·exact ht.elim
 | NotIn =>
  intro pins s σ H v1 v2 u1 u2 Q I r1 r2 ⟨x,y,S,K,hc,p1,p2,ht,res⟩
  change a5b true x y S K at ht
  unfold a5b at ht
  split at ht
  ·rename_i ds e
   obtain ⟨o1,o2,k⟩:=ht
   rw [Bool.true_xor] at k
   have o3:D.okd 60 (.lst ds)=true:=by simp only [D.okd,zak];exact ⟨rfl,o2⟩
   have w:((D.pys ds).any fun z=>PyData.eqv z (vw S x).py)=ds.any fun z=>D.eqv z (vw S x):=by
    clear e o2 k o3
    induction ds with
    | nil=>rfl
    | cons a l ih=>rw [D.pys,List.any_cons,List.any_cons,ih];rfl
   exact op_notInD hu pins s σ H _ _ _ _ Q I r1 r2 ⟨(vw S x).py,D.pys ds,hK ▸ a2K hc p1 rfl o1,hK ▸ a2K hc p2 e o3,a0n o1,a0n o3,by rw [w];exact res.bl k hc⟩
  ·rename_i ds e
   rcases ht with ⟨f1,f2,k⟩ | ⟨o1,o2,k⟩
   case inr =>
    rw [Bool.true_xor] at k
    have o3:D.okd 60 (.tup ds)=true:=by simp only [D.okd,zak];exact ⟨rfl,o2⟩
    have w:((D.pys ds).any fun z=>PyData.eqv z (vw S x).py)=ds.any fun z=>D.eqv z (vw S x):=by
     clear e o2 k o3
     induction ds with
     | nil=>rfl
     | cons a l ih=>rw [D.pys,List.any_cons,List.any_cons,ih];rfl
    exact a88 hu pins s σ H _ _ _ _ Q I r1 r2 ⟨(vw S x).py,D.pys ds,hK ▸ a2K hc p1 rfl o1,hK ▸ a2K hc p2 e o3,a0n o1,a0n o3,by rw [w];exact res.bl k hc⟩
   obtain ⟨p,vs,rfl,hl,hr⟩:=a0C p2 e
   rw [hK] at hl
   rw [Bool.true_xor] at k
   exact op_notIn_seq pins s σ H _ _ _ _ Q I r1 r2 ⟨p,vs,rfl,.inr hl,a2B f1 p1,a1A f2 hr,by rw [a6i f1 p1 f2 hr];exact res.bl k hc⟩
  ·rename_i b e
   cases a2E p2 e
   split at ht
   ·obtain ⟨c,rfl,k⟩:=ht
    cases a0u p1
    rw [Bool.true_xor] at k
    exact op_notIn_sign pins s σ H _ _ _ _ Q I r1 r2 ⟨c,b,rfl,rfl,res.bl k hc⟩
   ·exact ht.elim
  ·rename_i kvs e
   obtain ⟨k,ek,q⟩:=ht
   obtain ⟨p,vs,rfl,hl,hr⟩:=a1g hc p2 e
   cases a0V ek p1
   cases (show u2=Value.ref p from r2)
   rw [Bool.true_xor] at q
   exact d_notIn (by omega) I (.inl ⟨vs,k,hl,rfl,rfl⟩) r1 fun s' I'=>⟨.bl _,H,I',rfl,by rw [a5M hr];exact res.bl q hc⟩
  ·exact ht.elim
end
def ixD (x y:D) (S:SS) (Q:DK):Prop:=match vw S x with
 | .lst ds=>match y with
  | .int i=>∃ d,atI ds i=some d∧Q d S
  | _=>False
 | .tup ds=>match y with
  | .int i=>∃ d,atI ds i=some d∧Q d S
  | _=>False
 | .str z=>match y with
  | .int i=>∃ c,z.length≤sizeLine∧atI z.cps.toList i=some c∧Q (.str ⟨#[c]⟩) S
  | _=>False
 | .dic kvs=>∃ k d,keyD y=some k∧valD kvs k=some d∧Q d S
 | _=>False
section
variable {X:Cx} {g:Gd}
theorem b1U (hu:X.A.units + 1 < cLine):IxR X (fun x y H Q=>∃ a v,x=.ref a∧DGet H a y (some v)∧Q v H):=by
 intro value slice pins s σ H x y v u Q I rx ry h hs
 obtain ⟨a,w,rfl,g,q⟩:=h
 cases (show v=Value.ref a from rx)
 exact tail_any (dict_typeIs I g) PySem.F.slot_dict_getitem.lookup (d_getItem hu I g ry fun w' s3 I3 rw'=>⟨w,H,I3,rw',q⟩) hs
theorem b4W (hK:g.K=X.K) (hu:X.A.units + 65 < cLine):IxR X (rD2 g ixD):=by
 intro value slice pins s σ H v1 v2 u1 u2 Q I r1 r2 h hs
 obtain ⟨x,y,S,K,hc,p1,p2,ht,res⟩:=h
 unfold ixD at ht
 split at ht
 ·rename_i ds e
  obtain ⟨p,vs,rfl,hl,hr⟩:=a0k hc p1 e
  rw [hK] at hl
  split at ht
  ·obtain ⟨d,ed,k⟩:=ht
   obtain ⟨w,ew,rw'⟩:=hr.at ed
   cases a0f p2
   exact ix_list value slice pins s σ H _ _ _ _ Q I r1 r2 ⟨p,vs,_,w,rfl,rfl,hl,ew,res.val k hc rw'⟩ hs
  ·exact ht.elim
 ·rename_i ds e
  obtain ⟨p,vs,rfl,hl,hr⟩:=a0C p1 e
  rw [hK] at hl
  split at ht
  ·obtain ⟨d,ed,k⟩:=ht
   obtain ⟨w,ew,rw'⟩:=hr.at ed
   cases a0f p2
   exact ix_tup value slice pins s σ H _ _ _ _ Q I r1 r2 ⟨p,vs,_,w,rfl,rfl,hl,ew,res.val k hc rw'⟩ hs
  ·exact ht.elim
 ·rename_i z e
  cases a2E p1 e
  split at ht
  ·obtain ⟨c,hz,ec,k⟩:=ht
   cases a0f p2
   exact ix_str value slice pins s σ H _ _ _ _ Q I r1 r2 ⟨z,_,c,rfl,rfl,hz,ec,res.str k hc⟩ hs
  ·exact ht.elim
 ·rename_i kvs e
  obtain ⟨k,d,ek,ed,q⟩:=ht
  obtain ⟨p,vs,rfl,hl,hr⟩:=a1g hc p1 e
  cases a0V ek p2
  rcases a1m hr k with ⟨z,_⟩ | ⟨d2,w,z1,z2,rw'⟩
  ·rw [ed] at z;cases z
  ·rw [ed] at z1
   cases z1
   exact b1U (by omega) value slice pins s σ H _ _ _ _ Q I r1 r2 ⟨p,w,rfl,.inl ⟨vs,k,hl,rfl,z2.symm⟩,res.val q hc rw'⟩ hs
 ·exact ht.elim
end
def cutD (xs:List D) (lo hi:Option Int):List D:=(xs.drop (HT.sIx xs.length 0 lo)).take (HT.sIx xs.length xs.length hi - HT.sIx xs.length 0 lo)
def slD (x:D) (lo hi:Option Int) (S:SS) (Q:DK):Prop:=match vw S x with
 | .lst ds=>Q (.lst (cutD ds lo hi)) S
 | .tup ds=>Q (.tup (cutD ds lo hi)) S
 | .str z=>z.length≤sizeLine∧Q (.str (cutS z lo hi)) S
 | _=>False
def b3l (x:D) (lo hi:Option Int) (S:SS) (Q:DK):Prop:=match vw S x with
 | .lst ds=>∀ p,S p=none→Q (.obj p) (S.set p (.lst (cutD ds lo hi)))
 | _=>False
section
variable {X:Cx} {g:Gd}
def rDs (g:Gd) (t:D→Option Int→Option Int→SS→DK→Prop):V→Option Int→Option Int→Hp→VK→Prop:=fun v lo hi H Q=>∃ x S K,CellsOk g S H∧Rep g S H x v∧t x lo hi S K∧Res g S H K Q
theorem b2T (hK:g.K=X.K):SlR X (rDs g b3l):=by
 intro pins s σ H v1 u1 vl vu lo hi sl Q I r1 hs pl pu h
 obtain ⟨x,S,K,hc,p1,ht,res⟩:=h
 unfold b3l at ht
 split at ht
 ·rename_i ds e
  obtain ⟨p,vs,rfl,hl,hr⟩:=a0k hc p1 e
  rw [hK] at hl
  refine sl_list pins s σ H _ _ vl vu lo hi sl Q I r1 hs pl pu ⟨p,vs,rfl,hl,fun q hq=>res.lstC ht hc ?_ hq⟩
  unfold cutD cutV
  rw [hr.length]
  exact (hr.drop _).take _
 ·exact ht.elim
theorem b5K (hK:g.K=X.K):SlR X (rDs g slD):=by
 intro pins s σ H v1 u1 vl vu lo hi sl Q I r1 hs pl pu h
 obtain ⟨x,S,K,hc,p1,ht,res⟩:=h
 unfold slD at ht
 split at ht
 ·rename_i ds e
  obtain ⟨p,vs,rfl,hl,hr⟩:=a0k hc p1 e
  rw [hK] at hl
  refine sl_list pins s σ H _ _ vl vu lo hi sl Q I r1 hs pl pu ⟨p,vs,rfl,hl,fun q hq=>res.lst ht hc ?_ hq⟩
  unfold cutD cutV
  rw [hr.length]
  exact (hr.drop _).take _
 ·rename_i ds e
  cases a6A e
  obtain ⟨p,vs,rfl,hl,hr⟩:=a0C p1 e
  rw [hK] at hl
  refine sl_tupA pins s σ H _ _ vl vu lo hi sl Q I r1 hs pl pu ⟨p,vs,rfl,hl,fun whole=>?_,fun part q hq=>res.tup ht hc ?_ hq⟩
  ·refine res.val (d:=.tup (cutD ds lo hi)) ht hc ?_
   have all:cutD ds lo hi=ds:=by
    unfold cutD
    rw [hr.length,whole.1,whole.2,List.drop_zero,Nat.sub_zero,← hr.length,List.take_length]
   rw [all]
   exact p1
  ·unfold cutD cutV
   rw [hr.length]
   exact (hr.drop _).take _
 ·rename_i z e
  cases a2E p1 e
  exact sl_str pins s σ H _ _ vl vu lo hi sl Q I r1 hs pl pu ⟨z,rfl,ht.1,res.str ht.2 hc⟩
 ·exact ht.elim
end
def b1Z (xs:List D) (S:SS) (Q:DK):Prop:=match xs with
 | [x]=>match vw S x with
  | .lst ds=>Q (.int ds.length) S
  | .tup ds=>Q (.int ds.length) S
  | .str z=>z.length≤sizeLine∧Q (.int z.length) S
  | .dic kvs=>Q (.int kvs.length) S
  | _=>False
 | _=>False
def b7C (xs:List D) (S:SS) (Q:DK):Prop:=match xs with
 | [.int i]=>Q (.int (if i < 0 then -i else i)) S
 | _=>False
def maxD (xs:List D) (S:SS) (Q:DK):Prop:=match xs with
 | [.int i,.int j]=>Q (.int (if j > i then j else i)) S
 | _=>False
def minD (xs:List D) (S:SS) (Q:DK):Prop:=match xs with
 | [.int i,.int j]=>Q (.int (if j < i then j else i)) S
 | _=>False
section
variable {X:Cx} {g:Gd} {S:SS} {H:Hp}
theorem a4K {d:D} {vs:List V} (r:a0e g S H [d] vs):∃ v,vs=[v]∧Rep g S H d v:=by
 simp only [a0e] at r
 obtain ⟨v,q,rfl,a,rfl⟩:=r
 exact ⟨v,rfl,a⟩
theorem a0X {d e:D} {vs:List V} (r:a0e g S H [d,e] vs):∃ v u,vs=[v,u]∧Rep g S H d v∧Rep g S H e u:=by
 simp only [a0e] at r
 obtain ⟨v,q,rfl,a,u,q2,rfl,b,rfl⟩:=r
 exact ⟨v,u,rfl,a,b⟩
theorem b42 (hK:g.K=X.K):CallR X (.builtin "len") (rDc g b1Z):=by
 intro pins s σ H vs us Q I r h
 obtain ⟨xs,S,K,hc,p1,ht,res⟩:=h
 unfold b1Z at ht
 split at ht
 ·rename_i x
  obtain ⟨v,rfl,p2⟩:=a4K p1
  split at ht
  ·rename_i ds e
   obtain ⟨p,ws,rfl,hl,hr⟩:=a0k hc p2 e
   rw [hK] at hl
   exact call_len_seq pins s σ H _ _ Q I r ⟨p,ws,rfl,.inl hl,by rw [← hr.length];exact res.int ht hc⟩
  ·rename_i ds e
   obtain ⟨p,ws,rfl,hl,hr⟩:=a0C p2 e
   rw [hK] at hl
   exact call_len_seq pins s σ H _ _ Q I r ⟨p,ws,rfl,.inr hl,by rw [← hr.length];exact res.int ht hc⟩
  ·rename_i z e
   cases a2E p2 e
   exact call_len_str pins s σ H _ _ Q I r ⟨z,rfl,ht.1,res.int ht.2 hc⟩
  ·rename_i kvs e
   obtain ⟨p,ws,rfl,hl,hr⟩:=a1g hc p2 e
   obtain ⟨u1,rfl,r1⟩:=Vals.one r
   cases (show u1=Value.ref p from r1)
   exact d_len I hl fun t s' I'=>⟨.int ws.length,H,I',⟨t,rfl⟩,by rw [← Paired.length (a0R hr)];exact res.int ht hc⟩
  ·exact ht.elim
 ·exact ht.elim
theorem b3E:CallR X (.builtin "abs") (rDc g b7C):=by
 intro pins s σ H vs us Q I r h
 obtain ⟨xs,S,K,hc,p1,ht,res⟩:=h
 unfold b7C at ht
 split at ht
 ·obtain ⟨v,rfl,p2⟩:=a4K p1
  cases a0f p2
  exact call_abs pins s σ H _ _ Q I r ⟨_,rfl,res.int ht hc⟩
 ·exact ht.elim
theorem b49 (hc:X.calm=true):CallR X (.builtin "max") (rDc g maxD):=by
 intro pins s σ H vs us Q I r h
 obtain ⟨xs,S,K,hce,p1,ht,res⟩:=h
 unfold maxD at ht
 split at ht
 ·obtain ⟨v,u,rfl,p3,p4⟩:=a0X p1
  cases a0f p3
  cases a0f p4
  exact call_max2 hc pins s σ H _ _ Q I r ⟨_,_,rfl,res.int ht hce⟩
 ·exact ht.elim
theorem b5a (hc:X.calm=true):CallR X (.builtin "min") (rDc g minD):=by
 intro pins s σ H vs us Q I r h
 obtain ⟨xs,S,K,hce,p1,ht,res⟩:=h
 unfold minD at ht
 split at ht
 ·obtain ⟨v,u,rfl,p3,p4⟩:=a0X p1
  cases a0f p3
  cases a0f p4
  exact call_min2 hc pins s σ H _ _ Q I r ⟨_,_,rfl,res.int ht hce⟩
 ·exact ht.elim
def a1c (x:D) (S:SS) (Q:Bool→Prop):Prop:=match vw S x with
 | .non=>Q false
 | .bl b=>Q b
 | .int i=>Q (i != 0)
 | .str z=>z.length≤sizeLine∧Q ((z.length:Int) != 0)
 | .lst ds=>Q (!ds.isEmpty)
 | .tup ds=>Q (!ds.isEmpty)
 | _=>False
theorem a04 {ds:List D} {vs:List V} (r:a0e g S H ds vs):vs.isEmpty=ds.isEmpty:=by
 cases a2S r <;> rfl
theorem a6w (hK:g.K=X.K) {x:D} {v:V} {Q:Bool→Prop} (hc:CellsOk g S H) (r:Rep g S H x v) (h:a1c x S Q):∃ k,TruV X.K v H k∧Q k:=by
 unfold a1c at h
 split at h
 ·rename_i e;cases b1d r e;exact ⟨false,rfl,h⟩
 ·rename_i b e;cases b6y r e;exact ⟨b,rfl,h⟩
 ·rename_i b e;cases a7r r e;exact ⟨_,rfl,h⟩
 ·rename_i b e;cases a2E r e;exact ⟨_,⟨h.1,rfl⟩,h.2⟩
 ·rename_i ds e
  obtain ⟨p,vs,rfl,hl,hr⟩:=a0k hc r e
  rw [hK] at hl
  exact ⟨_,.inl ⟨vs,hl,rfl⟩,by rw [a04 hr];exact h⟩
 ·rename_i ds e
  obtain ⟨p,vs,rfl,hl,hr⟩:=a0C r e
  rw [hK] at hl
  exact ⟨_,.inr (.inl ⟨vs,hl,rfl⟩),by rw [a04 hr];exact h⟩
 ·exact h.elim
end
end Sv
namespace Sv
open PySem PySem.Spec PyProof.Rows L2
mutual
def pdD:D→Option PyData
 | .non=>some .none
 | .bl b=>some (.bool b)
 | .int i=>some (.int i)
 | .str x=>some (.str x)
 | .lst ds=>(a9L ds).map .list
 | .tup ds=>(a9L ds).map .tuple
 | .dic _ | .obj _ | .exc _ _ _ _ | .err _ _ _ _=>none
def a9L:List D→Option (List PyData)
 | []=>some []
 | d :: ds=>match pdD d,a9L ds with
  | some p,some ps=>some (p :: ps)
  | _,_=>none
end
section
variable {X:Cx} {g:Gd} {S:SS} {pins:List (Addr × Obj)} {σ:L2.St} {H:Hp} {s:Shared}
mutual
theorem a7h (hK:g.K=X.K) (I:Inv X pins σ H s):∀ (d:D) {v:V} {u:Value} {p:PyData},Rep g S H d v→RelV v u→pdD d=some p→∃ as,Reads s.heap u p as
 | .non,_,_,_,r,q,e=>by
  simp only [Rep] at r;subst r;cases e;cases (show _=Value.none from q);exact ⟨_,.none⟩
 | .bl b,_,_,_,r,q,e=>by
  simp only [Rep] at r;subst r;cases e;cases (show _=Value.bool b from q);exact ⟨_,.bool b⟩
 | .int i,_,_,_,r,q,e=>by
  simp only [Rep] at r;subst r;cases e
  obtain ⟨t,rfl⟩:=(show ∃ t,_=Value.int i t from q)
  exact ⟨_,.int i t⟩
 | .str x,_,_,_,r,q,e=>by
  simp only [Rep] at r;subst r;cases e
  obtain ⟨t,rfl⟩:=(show ∃ t,_=Value.str x t from q)
  exact ⟨_,.str x t⟩
 | .lst ds,_,_,_,r,q,e=>by
  simp only [Rep] at r
  obtain ⟨a,vs,rfl,at_a,rs⟩:=r
  have seq:=at_a.sq
  rw [hK] at seq
  obtain ⟨its,rel,⟨o,n,here,cls,_,data⟩,_⟩:=I.list seq
  cases (show _=Value.ref a from q)
  simp only [pdD,zam] at e
  obtain ⟨ps,all,rfl⟩:=e
  have ⟨as,each⟩:=a1k hK I ds rs rel all
  exact ⟨_,.list here cls data (by simpa using each)⟩
 | .tup ds,_,_,_,r,q,e=>by
  simp only [Rep] at r
  obtain ⟨a,vs,rfl,at_a,rs⟩:=r
  have seq:=at_a.sq
  rw [hK] at seq
  obtain ⟨its,rel,⟨o,here,cls,n,data⟩,_⟩:=I.tuple seq
  cases (show _=Value.ref a from q)
  simp only [pdD,zam] at e
  obtain ⟨ps,all,rfl⟩:=e
  have ⟨as,each⟩:=a1k hK I ds rs rel all
  exact ⟨_,.tuple here cls data (by simpa using each)⟩
 | .dic _,_,_,_,_,_,e=>nomatch e
 | .obj _,_,_,_,_,_,e=>nomatch e
 | .exc _ _ _ _,_,_,_,_,_,e=>nomatch e
 | .err _ _ _ _,_,_,_,_,_,e=>nomatch e
theorem a1k (hK:g.K=X.K) (I:Inv X pins σ H s):∀ (ds:List D) {vs:List V} {us:List Value} {ps:List PyData},a0e g S H ds vs→Vals vs us→a9L ds=some ps→∃ as,ReadsAll s.heap us ps as
 | [],_,_,_,r,q,e=>by
  simp only [a0e] at r;subst r;cases q;cases e;exact ⟨_,.nil⟩
 | d :: ds,_,_,_,r,q,e=>by
  simp only [a0e] at r
  obtain ⟨v,vs,rfl,r1,r2⟩:=r
  cases q with
  | cons q1 q2 =>
   simp only [a9L] at e
   split at e
   ·rename_i p ps e1 e2
    cases e
    have ⟨_,x⟩:=a7h hK I d r1 q1 e1
    have ⟨_,y⟩:=a1k hK I ds r2 q2 e2
    exact ⟨_,.cons x y⟩
   ·cases e
end
end
mutual
def pdE:D→Option PyData
 | .non=>some .none
 | .bl b=>some (.bool b)
 | .int i=>some (.int i)
 | .str x=>some (.str x)
 | .lst ds=>(b5n ds).map .list
 | .tup ds=>(b5n ds).map .tuple
 | .dic []=>some (.dict [])
 | .dic (_ :: _) | .obj _ | .exc _ _ _ _ | .err _ _ _ _=>none
def b5n:List D→Option (List PyData)
 | []=>some []
 | d :: ds=>match pdE d,b5n ds with
  | some p,some ps=>some (p :: ps)
  | _,_=>none
end
section
variable {X:Cx} {g:Gd} {S:SS} {pins:List (Addr × Obj)} {σ:L2.St} {H:Hp} {s:Shared}
theorem noE {p:PyData} (h:p.hasDict=false) {as:List Addr}:p.hasDict=true→sysModules∉as:=fun e=>by rw [h] at e;cases e
mutual
theorem a9j (hK:g.K=X.K) (I:Inv X pins σ H s):∀ (d:D) {v:V} {u:Value} {p:PyData},Rep g S H d v→RelV v u→pdE d=some p→p.showable=true→p.shown.length≤sizeLine →
  ∃ as bs,Reads s.heap u p as∧ReadAtMost s.heap p.depth bs∧ReprK X.prog X.w bs s.heap p.depth u p.shown
 | .non,_,_,_,r,q,e,hs,hz=>by
  simp only [Rep] at r;subst r;cases e;cases (show _=Value.none from q)
  obtain ⟨bs,h1,h2⟩:=ReprK.of_reads (prog:=X.prog) (w:=X.w) (h₀:=s.heap) .none hs (noE rfl) hz
  exact ⟨_,bs,.none,h1,h2⟩
 | .bl b,_,_,_,r,q,e,hs,hz=>by
  simp only [Rep] at r;subst r;cases e;cases (show _=Value.bool b from q)
  obtain ⟨bs,h1,h2⟩:=ReprK.of_reads (prog:=X.prog) (w:=X.w) (h₀:=s.heap) (.bool b) hs (noE rfl) hz
  exact ⟨_,bs,.bool b,h1,h2⟩
 | .int i,_,_,_,r,q,e,hs,hz=>by
  simp only [Rep] at r;subst r;cases e
  obtain ⟨t,rfl⟩:=(show ∃ t,_=Value.int i t from q)
  obtain ⟨bs,h1,h2⟩:=ReprK.of_reads (prog:=X.prog) (w:=X.w) (h₀:=s.heap) (.int i t) hs (noE rfl) hz
  exact ⟨_,bs,.int i t,h1,h2⟩
 | .str x,_,_,_,r,q,e,hs,hz=>by
  simp only [Rep] at r;subst r;cases e
  obtain ⟨t,rfl⟩:=(show ∃ t,_=Value.str x t from q)
  obtain ⟨bs,h1,h2⟩:=ReprK.of_reads (prog:=X.prog) (w:=X.w) (h₀:=s.heap) (.str x t) hs (noE rfl) hz
  exact ⟨_,bs,.str x t,h1,h2⟩
 | .lst ds,_,_,_,r,q,e,hs,hz=>by
  simp only [Rep] at r
  obtain ⟨a,vs,rfl,at_a,rs⟩:=r
  have seq:=at_a.sq
  rw [hK] at seq
  obtain ⟨its,rel,⟨o,n,here,cls,_,data⟩,_⟩:=I.list seq
  cases (show _=Value.ref a from q)
  simp only [pdE,zam] at e
  obtain ⟨ps,all,rfl⟩:=e
  have hz':(listText (PyData.shownAll ps)).length≤sizeLine:=by simpa only [PyData.shown] using hz
  obtain ⟨as,bs,each,hb,hk⟩:=a2z hK I ds rs rel all (by simpa [PyData.showable] using hs) (fun t ht=>Nat.le_trans (listText_mem_le ht) hz')
  have r:Reads s.heap (.ref a) (.list ps) _:=.list here cls data (by simpa using each)
  have hna:a∉bs:=not_mem_of_deeper r (by simp only [PyData.depth];omega) hb
  refine ⟨_,a :: bs,r,ReadAtMost.cons r (by simp only [PyData.depth];omega) hb,?_⟩
  simp only [PyData.depth,PyData.shown]
  cases its with
  | nil =>
   cases each
   simp only [PyData.shownAll,listText_nil]
   exact ReprK.listEmpty here cls data
  | cons x l=>exact ReprK.list here cls data hna (by simpa using hk.length_eq) (fun i y e=>hk.item i y (by simpa using e))
 | .tup ds,_,_,_,r,q,e,hs,hz=>by
  simp only [Rep] at r
  obtain ⟨a,vs,rfl,at_a,rs⟩:=r
  have seq:=at_a.sq
  rw [hK] at seq
  obtain ⟨its,rel,⟨o,here,cls,n,data⟩,_⟩:=I.tuple seq
  cases (show _=Value.ref a from q)
  simp only [pdE,zam] at e
  obtain ⟨ps,all,rfl⟩:=e
  have hz':(tupleText (PyData.shownAll ps)).length≤sizeLine:=by simpa only [PyData.shown] using hz
  obtain ⟨as,bs,each,hb,hk⟩:=a2z hK I ds rs rel all (by simpa [PyData.showable] using hs) (fun t ht=>Nat.le_trans (tupleText_mem_le ht) hz')
  have r:Reads s.heap (.ref a) (.tuple ps) _:=.tuple here cls data (by simpa using each)
  have hna:a∉bs:=not_mem_of_deeper r (by simp only [PyData.depth];omega) hb
  refine ⟨_,a :: bs,r,ReadAtMost.cons r (by simp only [PyData.depth];omega) hb,?_⟩
  simp only [PyData.depth,PyData.shown]
  exact ReprK.tuple here cls data hna (by simpa using hk)
 | .dic [],_,_,_,r,q,e,hs,hz=>by
  simp only [Rep] at r
  obtain ⟨a,ws,rfl,_,at_a,rk⟩:=r
  have ew:ws=[]:=by simpa only [a0L] using rk
  subst ew
  cases (show _=Value.ref a from q)
  cases e
  obtain ⟨_,hsys,vs,kv,o,es,ep,here,ex,data,_,pr,_⟩:=dk_of I.hok at_a
  cases kv
  have e0:es.toList=[]:=by cases h:es.toList with
   | nil=>rfl
   | cons x l=>rw [h] at pr;cases pr
  have r:Reads s.heap (.ref a) (.dict []) _:=.dict here ex.1 data (by rw [e0];exact .nil) (by rw [e0];exact .nil)
  refine ⟨_,[a],r,ReadAtMost.cons r (by simp only [PyData.depth];omega) (show ReadAtMost s.heap (PyData.depthKv []) [] from fun _ h=>nomatch h),?_⟩
  simp only [PyData.depth,PyData.shown,PyData.shownKv]
  exact ReprK.dict here ex.1 data hsys (fun h=>nomatch h) (by rw [e0];exact .nil)
 | .dic (_ :: _),_,_,_,_,_,e,_,_=>nomatch e
 | .obj _,_,_,_,_,_,e,_,_=>nomatch e
 | .exc _ _ _ _,_,_,_,_,_,e,_,_=>nomatch e
 | .err _ _ _ _,_,_,_,_,_,e,_,_=>nomatch e
theorem a2z (hK:g.K=X.K) (I:Inv X pins σ H s):∀ (ds:List D) {vs:List V} {us:List Value} {ps:List PyData},a0e g S H ds vs→Vals vs us→b5n ds=some ps→PyData.showableAll ps=true→(∀ t∈PyData.shownAll ps,t.length≤sizeLine) →
  ∃ as bs,ReadsAll s.heap us ps as∧ReadAtMost s.heap (PyData.depthAll ps) bs∧ReprAllK X.prog X.w bs s.heap (PyData.depthAll ps) us (PyData.shownAll ps)
 | [],_,_,_,r,q,e,_,_=>by
  simp only [a0e] at r;subst r;cases q;cases e
  exact ⟨_,[],.nil,(fun _ h=>nomatch h),by simp only [PyData.shownAll];exact .nil⟩
 | d :: ds,_,_,_,r,q,e,hs,hz=>by
  simp only [a0e] at r
  obtain ⟨v,vs,rfl,r1,r2⟩:=r
  cases q with
  | cons q1 q2 =>
   simp only [b5n] at e
   split at e
   ·rename_i p ps e1 e2
    cases e
    have hs':p.showable=true∧PyData.showableAll ps=true:=by simpa [PyData.showableAll] using hs
    obtain ⟨a1,b1,x1,hb1,k1⟩:=a9j hK I d r1 q1 e1 hs'.1 (hz _ (by simp only [PyData.shownAll];exact zal ..))
    obtain ⟨a2,b2,x2,hb2,k2⟩:=a2z hK I ds r2 q2 e2 hs'.2 (fun t ht=>hz t (by simp only [PyData.shownAll];exact zao _ ht))
    refine ⟨_,b1 ++ b2,.cons x1 x2,?_,?_⟩
    ·intro b hm
     simp only [PyData.depthAll]
     rcases zap.mp hm with hm | hm
     ·obtain ⟨d',as',r',hd'⟩:=hb1 b hm
      exact ⟨d',as',r',Nat.le_trans hd' (Nat.le_max_left _ _)⟩
     ·obtain ⟨d',as',r',hd'⟩:=hb2 b hm
      exact ⟨d',as',r',Nat.le_trans hd' (Nat.le_max_right _ _)⟩
    ·simp only [PyData.depthAll,PyData.shownAll]
     exact .cons ((k1.more fun b hb=>zar _ hb).level_le (Nat.le_max_left _ _)) (k2.more_le (fun b hb=>zas _ hb) (Nat.le_max_right _ _))
   ·cases e
end
theorem a9q (hK:g.K=X.K) (I:Inv X pins σ H s):∀ (d:D) {v:V} {a:Addr} {p:PyData},Rep g S H d v→RelV v (.ref a)→pdE d=some p→p.showable=true→p.shown.length≤sizeLine→∃ T idr,ShowsBy X.prog X.w s.heap a p T idr
 | .non,_,_,_,r,q,e,_,_=>by
  simp only [Rep] at r;subst r;cases (show _=Value.none from q)
 | .bl b,_,_,_,r,q,e,_,_=>by
  simp only [Rep] at r;subst r;cases (show _=Value.bool b from q)
 | .int i,_,_,_,r,q,e,_,_=>by
  simp only [Rep] at r;subst r
  obtain ⟨t,h⟩:=(show ∃ t,_=Value.int i t from q)
  cases h
 | .str x,_,_,_,r,q,e,_,_=>by
  simp only [Rep] at r;subst r
  obtain ⟨t,h⟩:=(show ∃ t,_=Value.str x t from q)
  cases h
 | .lst ds,_,a,_,r,q,e,hs,hz=>by
  simp only [Rep] at r
  obtain ⟨a1,vs,rfl,at_a,rs⟩:=r
  have ea:a=a1:=by cases (show Value.ref a=Value.ref a1 from q);rfl
  subst ea
  have seq:=at_a.sq
  rw [hK] at seq
  obtain ⟨its,rel,⟨o,n,here,cls,_,data⟩,_⟩:=I.list seq
  simp only [pdE,zam] at e
  obtain ⟨ps,all,rfl⟩:=e
  have hz':(listText (PyData.shownAll ps)).length≤sizeLine:=by simpa only [PyData.shown] using hz
  obtain ⟨as,bs,each,hb,hk⟩:=a2z hK I ds rs rel all (by simpa [PyData.showable] using hs) (fun t ht=>Nat.le_trans (listText_mem_le ht) hz')
  have r:Reads s.heap (.ref a) (.list ps) _:=.list here cls data (by simpa using each)
  have hna:a∉bs:=not_mem_of_deeper r (by simp only [PyData.depth];omega) hb
  refine ⟨"list", "list.__repr__",F.slot_list_repr.toG,F.slot_list_str,F.slot_list_format,fun s hk0=>⟨o,hk0 _ _ here,cls⟩,fun A E s Q hg hu hk0 hQ=>?_⟩
  simp only [PyData.depth] at hu
  simp only [PyData.shown] at hQ
  cases its with
  | nil =>
   cases each
   simp only [PyData.shownAll,listText_nil] at hQ
   exact call_list_repr_empty ⟨o,hk0 _ _ here,cls⟩ (hk0 _ _ here) data (hQ s.heap _ _ fun _ _ e=>e)
  | cons x l=>exact call_list_reprK here cls data hna (by simpa using hk.length_eq) (fun i y e=>hk.item i y (by simpa using e)) hg (fun b _=>Clear.nil b) hu hk0 hQ hz'
 | .tup ds,_,a,_,r,q,e,hs,hz=>by
  simp only [Rep] at r
  obtain ⟨a1,vs,rfl,at_a,rs⟩:=r
  have ea:a=a1:=by cases (show Value.ref a=Value.ref a1 from q);rfl
  subst ea
  have seq:=at_a.sq
  rw [hK] at seq
  obtain ⟨its,rel,⟨o,here,cls,n,data⟩,_⟩:=I.tuple seq
  simp only [pdE,zam] at e
  obtain ⟨ps,all,rfl⟩:=e
  have hz':(tupleText (PyData.shownAll ps)).length≤sizeLine:=by simpa only [PyData.shown] using hz
  obtain ⟨as,bs,each,hb,hk⟩:=a2z hK I ds rs rel all (by simpa [PyData.showable] using hs) (fun t ht=>Nat.le_trans (tupleText_mem_le ht) hz')
  have r:Reads s.heap (.ref a) (.tuple ps) _:=.tuple here cls data (by simpa using each)
  have hna:a∉bs:=not_mem_of_deeper r (by simp only [PyData.depth];omega) hb
  refine ⟨"tuple", "tuple.__repr__",F.slot_tuple_repr,F.slot_tuple_str,F.slot_tuple_format,fun s hk0=>⟨o,hk0 _ _ here,cls⟩,fun A E s Q hg hu hk0 hQ=>?_⟩
  simp only [PyData.depth] at hu
  simp only [PyData.shown] at hQ
  exact call_tuple_reprK here cls data hna (by simpa using hk) hg (fun b _=>Clear.nil b) hu hk0 hQ hz'
 | .dic [],_,_,_,r,q,e,hs,hz=>by
  simp only [Rep] at r
  obtain ⟨a,ws,rfl,_,at_a,rk⟩:=r
  have ew:ws=[]:=by simpa only [a0L] using rk
  subst ew
  cases (show _=Value.ref a from q)
  cases e
  obtain ⟨_,hsys,vs,kv,o,es,ep,here,ex,data,_,pr,_⟩:=dk_of I.hok at_a
  cases kv
  have e0:es.toList=[]:=by cases h:es.toList with
   | nil=>rfl
   | cons x l=>rw [h] at pr;cases pr
  refine ⟨"dict", "dict.__repr__",F.slot_dict_repr,F.slot_dict_str,F.slot_dict_format,fun s hk0=>⟨o,hk0 _ _ here,ex.1⟩,fun A E s Q hg hu hk0 hQ=>?_⟩
  simp only [PyData.depth] at hu
  simp only [PyData.shown,PyData.shownKv] at hQ
  exact call_dict_reprK (as:=[]) here ex.1 data hsys (fun h=>nomatch h) (by rw [e0];exact .nil) hg (fun b _=>Clear.nil b) hu hk0 hQ (by simpa only [PyData.shown,PyData.shownKv] using hz)
 | .dic (_ :: _),_,_,_,_,_,e,_,_=>nomatch e
 | .obj _,_,_,_,_,_,e,_,_=>nomatch e
 | .exc _ _ _ _,_,_,_,_,_,e,_,_=>nomatch e
 | .err _ _ _ _,_,_,_,_,_,e,_,_=>nomatch e
end
structure b1o (p:PyData):Prop where
 can:p.showable=true
 noDict:p.hasDict=false
 fits:p.shown.length≤sizeLine
 flat:p.depth≤20
structure b3z (p:PyData):Prop where
 can:p.showable=true
 fits:p.shown.length≤sizeLine
 flat:p.depth≤20
def pdS (S:SS):D→Option PyData
 | .obj a=>match S a with
  | some (.lst ds)=>(a9L ds).map .list
  | _=>none
 | d=>pdD d
theorem a9i {X:Cx} {g:Gd} {S:SS} {pins:List (Addr × Obj)} {σ:L2.St} {H:Hp} {s:Shared} (hK:g.K=X.K) (I:Inv X pins σ H s) (cells:CellsOk g S H) {d:D} {v:V} {u:Value} {p:PyData} (r:Rep g S H d v) (q:RelV v u) (e:pdS S d=some p):∃ as,Reads s.heap u p as:=by
 unfold pdS at e
 split at e
 ·rename_i a
  simp only [Rep] at r
  subst r
  split at e
  ·rename_i ds at_a
   obtain ⟨vs,tracked,rs⟩:=cells a _ at_a
   simp only [zam] at e
   obtain ⟨ps,all,rfl⟩:=e
   obtain ⟨its,rel,⟨o,n,here,cls,_,data⟩,_⟩:=I.list (.inl (.inl tracked))
   cases (show u=Value.ref a from q)
   have ⟨as,each⟩:=a1k hK I ds rs rel all
   exact ⟨_,.list here cls data (by simpa using each)⟩
  ·cases e
 ·exact a7h hK I d r q e
def b2P (xs:List D) (S:SS) (K:DK):Prop:=match xs with
 | [d]=>∃ p,(((pdS S d=some p∨(D.okd 60 (dv S 60 d)=true∧p=(dv S 60 d).py))∧b1o p)∨(pdE d=some p∧b3z p))∧K (.str p.shown) S
 | _=>False
theorem a8f {X:Cx} {g:Gd} (hK:g.K=X.K) (guards:X.A.guards=some []) (units:X.A.units + 21 < cLine):CallR X (.builtin "repr") (rDc g b2P):=by
 rintro pins s σ H _ _ Q I given ⟨xs,S,K,cells,reps,told,res⟩
 unfold b2P at told
 split at told
 case h_2=>exact told.elim
 rename_i d
 obtain ⟨p,told,k⟩:=told
 simp only [a0e] at reps
 obtain ⟨v,_,rfl,rep,rfl⟩:=reps
 have want:Q (.str p.shown) H:=res.val k cells (by simp only [Rep])
 cases given with
 | cons one rest =>
  cases rest
  rcases told with ⟨plain,shows⟩ | ⟨plain,shows⟩
  case inr =>
   obtain ⟨as,bs,reads,_⟩:=a9j hK I d rep one plain shows.can shows.fits
   have big:=fun (a:Addr) (q:RelV _ (.ref a)) =>
    have ⟨T,idr,sb⟩:=a9q hK I d rep q plain shows.can shows.fits
    call_repr_slot (prog:=X.prog) (w:=X.w) (A:=X.A) (E:=X.xe) (s:=s) (Q:=EP X pins σ Q) (by omega) (sb.typeIs s fun _ _ e=>e) sb.slotRepr (sb.call X.A.in1 X.xe s _ guards (by show X.A.units + 1 + p.depth < cLine;have:=shows.flat;omega) (fun _ _ e=>e) fun h' u tk keeps=>⟨_,_,rfl,⟨.str p.shown,H,I.kept keeps,⟨u,rfl⟩,want⟩⟩)
   cases reads with
   | none=>exact PySem.P.repr_of_none ⟨.str _,H,I.tok _,⟨_,rfl⟩,want⟩
   | bool b=>exact PySem.P.repr_of_bool ⟨.str _,H,I.tok _,⟨_,rfl⟩,by cases b <;> exact want⟩
   | int i t=>exact PySem.P.repr_of_int (by simpa [PyData.showable] using shows.can) ⟨.str _,H,I.tok _,⟨_,rfl⟩,want⟩
   | str x t=>exact PySem.P.repr_of_str ⟨.str _,H,I.tok _,⟨_,rfl⟩,want⟩ shows.fits
   | list e1 e2 e3 e4=>exact big _ one
   | tuple e1 e2 e3 e4=>exact big _ one
   | dict e1 e2 e3 e4 e5=>exact big _ one
  obtain ⟨as,reads⟩:∃ as,Reads s.heap _ p as:=by
   rcases plain with plain | ⟨okd,rfl⟩
   ·exact a9i hK I cells rep one plain
   ·exact Dp.reads I _ _ _ (hK ▸ a7z cells 60 60 okd rep) one
  have big:=fun (a:Addr) (reads:Reads s.heap (.ref a) p as)=>repr_of_reads' (prog:=X.prog) (w:=X.w) (A:=X.A) (E:=X.xe) (s:=s) (Q:=EP X pins σ Q) reads shows.can (PyData.noDict_hsm shows.noDict) guards (by have:=shows.flat;omega) (fun _ _ e=>e)
   (fun h' u tk keeps=>⟨.str p.shown,H,I.kept keeps,⟨u,rfl⟩,want⟩) shows.fits
  cases reads with
  | none=>exact PySem.P.repr_of_none ⟨.str _,H,I.tok _,⟨_,rfl⟩,want⟩
  | bool b=>exact PySem.P.repr_of_bool ⟨.str _,H,I.tok _,⟨_,rfl⟩,by cases b <;> exact want⟩
  | int i t=>exact PySem.P.repr_of_int (by simpa [PyData.showable] using shows.can) ⟨.str _,H,I.tok _,⟨_,rfl⟩,want⟩
  | str x t=>exact PySem.P.repr_of_str ⟨.str _,H,I.tok _,⟨_,rfl⟩,want⟩ shows.fits
  | list e1 e2 e3 e4=>exact big _ (.list e1 e2 e3 e4)
  | tuple e1 e2 e3 e4=>exact big _ (.tuple e1 e2 e3 e4)
  | dict e1 e2 e3 e4 e5=>exact big _ (.dict e1 e2 e3 e4 e5)
end Sv
namespace Sv
open PySem PySem.Spec PyProof.Rows L2
def intD (xs:List D) (S:SS) (K:DK):Prop:=match xs with
 | [.int i]=>K (.int i) S
 | [.bl b]=>K (.int (if b then 1 else 0)) S
 | [.str x]=>x.length≤640∧∃ n,PySem.intText? x=some n∧K (.int n) S
 | _=>False
def a9C (xs:List D) (S:SS) (K:DK):Prop:=match xs with
 | [d]=>match vw S d with
  | .lst ds=>K (.tup ds) S
  | .tup ds=>K (.tup ds) S
  | _=>False
 | _=>False
def b2d (cell:Bool) (xs:List D) (S:SS) (K:DK):Prop:=match xs with
 | [d]=>∃ ds,(vw S d=.lst ds∨vw S d=.tup ds)∧if cell=true then ∀ p,S p=none→K (.obj p) (S.set p (.lst ds)) else K (.lst ds) S
 | _=>False
section
variable {X:Cx} {g:Gd}
theorem one_of {S:SS} {H:Hp} {d:D} {vs:List V} (r:a0e g S H [d] vs):∃ v,vs=[v]∧Rep g S H d v:=by
 simp only [a0e] at r
 obtain ⟨v,_,rfl,rep,rfl⟩:=r
 exact ⟨v,rfl,rep⟩
theorem int_ok:CallR X (.type "int") (rDc g intD):=by
 rintro pins s σ H vs us Q I given ⟨xs,S,K,cells,reps,told,res⟩
 unfold intD at told
 split at told
 ·obtain ⟨v,rfl,rep⟩:=one_of reps
  cases a0f rep
  exact call_int1 _ _ _ _ _ _ _ I given (.inl ⟨_,rfl,res.int told cells⟩)
 ·obtain ⟨v,rfl,rep⟩:=one_of reps
  simp only [Rep] at rep
  subst rep
  exact call_int1 _ _ _ _ _ _ _ I given (.inr ⟨_,rfl,res.int told cells⟩)
 ·obtain ⟨v,rfl,rep⟩:=one_of reps
  cases a0u rep
  obtain ⟨short,n,reads,k⟩:=told
  obtain ⟨u,rfl,t,rfl⟩:=vals1 given
  exact PySem.W.KIN.call_text reads short ⟨.int n,H,I.tok _,⟨_,rfl⟩,res.int k cells⟩
 ·exact told.elim
theorem b0M (hK:g.K=X.K):CallR X (.type "tuple") (rDc g a9C):=by
 rintro pins s σ H vs us Q I given ⟨xs,S,K,cells,reps,told,res⟩
 unfold a9C at told
 split at told
 ·obtain ⟨v,rfl,rep⟩:=one_of reps
  split at told
  ·rename_i ds seen
   obtain ⟨p,ws,rfl,seq,all⟩:=a0k cells rep seen
   rw [hK] at seq
   exact call_tuple_of _ _ _ _ _ _ _ I given ⟨_,_,rfl,.inl ⟨seq,fun l free=>res.tup told cells all free⟩⟩
  ·rename_i ds seen
   have is:=a6A seen
   subst is
   obtain ⟨p,ws,rfl,seq,all⟩:=a0C rep seen
   rw [hK] at seq
   exact call_tuple_of _ _ _ _ _ _ _ I given ⟨_,_,rfl,.inr ⟨seq,res.val told cells rep⟩⟩
  ·exact told.elim
 ·exact told.elim
theorem b2e (hK:g.K=X.K) (cell:Bool):CallR X (.type "list") (rDc g (b2d cell)):=by
 rintro pins s σ H vs us Q I given ⟨xs,S,K,cells,reps,told,res⟩
 unfold b2d at told
 split at told
 ·obtain ⟨v,rfl,rep⟩:=one_of reps
  obtain ⟨ds,seen,told⟩:=told
  have laid:∃ p ws,v=.ref p∧(SqL X.K H p ws∨SqT X.K H p ws)∧a0e g S H ds ws:=by
   rw [← hK]
   rcases seen with seen | seen
   ·exact (a0k cells rep seen).imp fun _ z=>z.imp fun _ z=>⟨z.1,.inl z.2.1,z.2.2⟩
   ·exact (a0C rep seen).imp fun _ z=>z.imp fun _ z=>⟨z.1,.inr z.2.1,z.2.2⟩
  obtain ⟨p,ws,rfl,seq,all⟩:=laid
  refine call_list_of _ _ _ _ _ _ _ I given ⟨_,_,rfl,seq,fun l free=>?_⟩
  cases cell with
  | true=>exact res.lstC told cells all free
  | false=>exact res.lst told cells all free
 ·exact told.elim
end
end Sv
namespace Sv
open PySem PySem.Spec PyProof.Rows L2
def leS (a b:Str):Bool:=!decide (b.cps.toList < a.cps.toList)
def a0i (zs:List Str):List Str:=zs.mergeSort leS
theorem a3v (a b:Str):leS a b=true∨leS b a=true:=by
 unfold leS
 simp only [Bool.not_eq_true',decide_eq_false_iff_not]
 by_cases h:b.cps.toList < a.cps.toList
 ·exact .inr fun z=>List.lt_irrefl _ (List.lt_trans h z)
 ·exact .inl h
theorem a2r (a b c:Str) (h:leS a b=true) (k:leS b c=true):leS a c=true:=by
 unfold leS at h k ⊢
 simp only [Bool.not_eq_true',decide_eq_false_iff_not] at h k ⊢
 exact List.le_trans (List.not_lt.mp h) (List.not_lt.mp k)
theorem a6V {a b:Str} (h:leS a b=true) (k:leS b a=true):a=b:=by
 unfold leS at h k
 simp only [Bool.not_eq_true',decide_eq_false_iff_not] at h k
 have same:=List.le_antisymm (List.not_lt.mp h) (List.not_lt.mp k)
 cases a;cases b
 congr 1
 exact Array.toList_inj.mp same
theorem a5E:∀ (zs:List Str) (p:Str),risingS p zs=true→(p :: zs).Pairwise fun a b=>leS a b=true
 | [],_,_=>List.pairwise_singleton _ _
 | x :: r,p,h=>by
  simp only [risingS,zak] at h
  have rest:=a5E r x h.2
  have first:leS p x=true:=by
   unfold leS
   rw [← ltCps_eq]
   exact h.1
  refine List.pairwise_cons.mpr ⟨fun y hy=>?_,rest⟩
  rcases zau.mp hy with rfl | hy
  ·exact first
  ·exact a2r _ _ _ first ((List.pairwise_cons.mp rest).1 y hy)
theorem a3K {ys zs:List Str} (perm:ys.Perm zs) (up:sortedS ys=true):ys=a0i zs:=by
 have rises:ys.Pairwise fun a b=>leS a b=true:=by
  cases ys with
  | nil=>exact .nil
  | cons x r=>exact a5E r x up
 have rises2:(a0i zs).Pairwise fun a b=>leS a b=true:=List.pairwise_mergeSort a2r (fun a b=>by
  have:=a3v a b
  simpa using this) zs
 exact List.Perm.eq_of_pairwise (fun a b _ _ h k=>a6V h k) rises rises2 (perm.trans (List.mergeSort_perm zs leS).symm)
def outL (cell:Bool) (ds:List D) (S:SS) (K:DK):Prop:=if cell=true then ∀ p,S p=none→K (.obj p) (S.set p (.lst ds)) else K (.lst ds) S
def outK (cell:Bool) (kvs:List (Key × D)) (S:SS) (K:DK):Prop:=if cell=true then ∀ p,S p=none→K (.obj p) (S.set p (.dic kvs)) else K (.dic kvs) S
theorem Res.outL {g:Gd} {S:SS} {H:Hp} {K:DK} {Q:VK} {cell:Bool} {ds:List D} {vs:List V} {p:Addr} (res:Res g S H K Q) (k:outL cell ds S K) (cells:CellsOk g S H) (all:a0e g S H ds vs) (free:H p=none):Q (.ref p) (upd H p (.lst vs)):=by
 cases cell with
 | true=>exact res.lstC k cells all free
 | false=>exact res.lst k cells all free
theorem Res.outK {g:Gd} {S:SS} {H:Hp} {K:DK} {Q:VK} {cell:Bool} {kvs:List (Key × D)} {ws:List (Key × V)} {p:Addr} (res:Res g S H K Q) (k:outK cell kvs S K) (cells:CellsOk g S H) (all:a0L g S H kvs ws) (free:H p=none):Q (.ref p) (upd H p (.dK ws)):=by
 cases cell with
 | true=>exact res.dicC k cells all free
 | false=>exact res.dic k cells all free
theorem a1B {g:Gd} {S:SS} {H:Hp}:∀ (zs:List Str) {vs:List V},a0e g S H (zs.map D.str) vs→vs=zs.map V.str
 | [],_,r=>by simp only [List.map_nil,a0e] at r;exact r
 | z :: zs,_,r=>by
  simp only [zax,a0e] at r
  obtain ⟨v,q,rfl,one,more⟩:=r
  rw [a0u one,a1B zs more,zax]
theorem a2D {g:Gd} {S:SS} {H:Hp}:∀ (zs:List Str),a0e g S H (zs.map D.str) (zs.map V.str)
 | []=>by simp only [List.map_nil,a0e]
 | z :: zs=>by
  simp only [zax,a0e]
  exact ⟨_,_,rfl,by simp only [Rep],a2D zs⟩
theorem a9m {g:Gd} {S:SS} {H:Hp} {kvs:List (Key × D)} {ws:List (Key × V)} (r:a0L g S H kvs ws):ws.map (·.1)=kvs.map (·.1):=by
 have q:=a0R r
 clear r
 induction q with
 | nil=>rfl
 | cons h _ ih=>rw [zax,zax,ih,h.1]
theorem a9n {g:Gd} {S:SS} {H:Hp} {kvs:List (Key × D)} {ws:List (Key × V)} (r:a0L g S H kvs ws):a0e g S H (kvs.map (·.2)) (ws.map (·.2)):=by
 have q:=a0R r
 clear r
 refine a3y ?_
 induction q with
 | nil=>exact .nil
 | cons h _ ih=>exact .cons h.2 ih
def a6u (cell:Bool) (xs:List D) (S:SS) (K:DK):Prop:=match xs with
 | [d]=>∃ zs:List Str,(vw S d=.lst (zs.map D.str)∨∃ kvs,vw S d=.dic kvs∧kvs.map (·.1)=zs.map Sum.inr)∧zs.length < 64∧outL cell ((a0i zs).map D.str) S K
 | _=>False
def b1z (cell:Bool) (xs:List D) (S:SS) (K:DK):Prop:=match xs with
 | [d]=>∃ kvs,vw S d=.dic kvs∧outK cell kvs S K
 | _=>False
section
variable {X:Cx} {g:Gd}
theorem a9v (calm:X.calm=true) (hK:g.K=X.K) (cell:Bool):CallR X (.builtin "sorted") (rDc g (a6u cell)):=by
 rintro pins s σ H vs us Q I given ⟨xs,S,K,cells,reps,told,res⟩
 unfold a6u at told
 split at told
 ·obtain ⟨v,rfl,rep⟩:=one_of reps
  obtain ⟨zs,seen | ⟨kvs,seen,keys⟩,few,k⟩:=told
  ·obtain ⟨p,ws,rfl,seq,all⟩:=a0k cells rep seen
   rw [hK] at seq
   cases a1B zs all
   exact cr_sortedS _ _ _ _ _ _ _ I given ⟨p,zs,rfl,seq,few,fun ys q perm up free=>by
    rw [a3K perm up]
    exact res.outL k cells (a2D _) free⟩
  ·obtain ⟨p,ws,rfl,at_p,all⟩:=a1g cells rep seen
   exact call_sortedD calm _ _ _ _ _ _ _ I given ⟨p,ws,zs,rfl,at_p,(a9m all).trans keys,few,fun ys q perm up free=>by
    rw [a3K perm up]
    exact res.outL k cells (a2D _) free⟩
 ·exact told.elim
theorem b1A (cell:Bool):CallR X (.type "dict") (rDc g (b1z cell)):=by
 rintro pins s σ H vs us Q I given ⟨xs,S,K,cells,reps,told,res⟩
 unfold b1z at told
 split at told
 ·obtain ⟨v,rfl,rep⟩:=one_of reps
  obtain ⟨kvs,seen,k⟩:=told
  obtain ⟨p,ws,rfl,at_p,all⟩:=a1g cells rep seen
  exact call_dictD _ _ _ _ _ _ _ I given ⟨p,ws,rfl,at_p,fun q free=>res.outK k cells all free⟩
 ·exact told.elim
def b1W (x:D) (xs:List D) (S:SS) (K:DK):Prop:=match x,xs with
 | .str a,[d]=>∃ zs:List Str,(vw S d=.lst (zs.map D.str)∨vw S d=.tup (zs.map D.str))∧(zs.map (·.length)).sum + zs.length * a.length≤16777216∧K (.str (Txt.join a zs)) S
 | _,_=>False
def a9E (x:D) (xs:List D) (S:SS) (K:DK):Prop:=match x,xs with
 | .str a,[]=>a.length≤5592405∧K (.str (Txt.upper a)) S
 | _,_=>False
def b75 (x:D) (xs:List D) (S:SS) (K:DK):Prop:=match x,xs with
 | .obj p,[d]=>∃ ds,S p=some (.lst ds)∧ds.length < sizeLine∧K .non (S.set p (.lst (ds ++ [d])))
 | _,_=>False
def b8W (x:D) (xs:List D) (S:SS) (K:DK):Prop:=match x,xs with
 | .obj p,[.int i,d]=>∃ ds,S p=some (.lst ds)∧ds.length < sizeLine∧0≤i∧i < 2 ^ 63∧K .non (S.set p (.lst (ds.take i.toNat ++ [d] ++ ds.drop i.toNat)))
 | _,_=>False
def b9i (x:D) (xs:List D) (S:SS) (K:DK):Prop:=match x,xs with
 | .obj p,[]=>∃ ds d,S p=some (.lst ds)∧ds[ds.length - 1]?=some d∧K d (S.set p (.lst ds.dropLast))
 | .obj p,[.int i]=>∃ (ds:List D) (d:D) (k:Nat),S p=some (.lst ds)∧i=(k:Int)∧ds[k]?=some d∧i < 2 ^ 63∧K d (S.set p (.lst (ds.eraseIdx k)))
 | _,_=>False
def a8h (x:D) (xs:List D) (S:SS) (K:DK):Prop:=match x,xs with
 | .obj p,[]=>∃ ds,S p=some (.lst ds)∧K .non (S.set p (.lst []))
 | _,_=>False
def b8o (x:D) (xs:List D) (S:SS) (K:DK):Prop:=match xs with
 | [d]=>∃ ds,vw S x=.lst ds∧D.okds 59 ds=true∧D.okd 60 (vw S d)=true∧K (.int (ds.countP fun z=>D.eqv z (vw S d):Nat)) S
 | _=>False
def b1B (x:D) (xs:List D) (S:SS) (K:DK):Prop:=match x,xs with
 | .obj p,[k]=>∃ kvs key d,S p=some (.dic kvs)∧keyD k=some key∧valD kvs key=some d∧K d (S.set p (.dic (a4w kvs key)))
 | _,_=>False
theorem b1X (hK:g.K=X.K):MtR X "str.join" (rDm g b1W):=by
 rintro pins s σ H v vs u us Q I rv given ⟨x,xs,S,K,cells,rep,reps,told,res⟩
 unfold b1W at told
 split at told
 ·obtain ⟨w,rfl,rep2⟩:=one_of reps
  cases a0u rep
  obtain ⟨zs,seen,few,k⟩:=told
  have laid:∃ p,w=.ref p∧(SqL X.K H p (zs.map V.str)∨SqT X.K H p (zs.map V.str)):=by
   rw [← hK]
   rcases seen with seen | seen
   ·obtain ⟨p,ws,e,seq,all⟩:=a0k cells rep2 seen
    rw [a1B zs all] at seq
    exact ⟨p,e,.inl seq⟩
   ·obtain ⟨p,ws,e,seq,all⟩:=a0C rep2 seen
    rw [a1B zs all] at seq
    exact ⟨p,e,.inr seq⟩
  obtain ⟨p,rfl,seq⟩:=laid
  exact mt_join _ _ _ _ _ _ _ _ _ I rv given ⟨_,p,zs,rfl,rfl,seq,few,res.str k cells⟩
 ·exact told.elim
theorem b0O:MtR X "str.upper" (rDm g a9E):=by
 rintro pins s σ H v vs u us Q I rv given ⟨x,xs,S,K,cells,rep,reps,told,res⟩
 unfold a9E at told
 split at told
 ·simp only [a0e] at reps
  subst reps
  cases a0u rep
  exact mt_upper _ _ _ _ _ _ _ _ _ I rv given ⟨_,rfl,rfl,told.1,res.str told.2 cells⟩
 ·exact told.elim
theorem app_ok:MtR X "list.append" (rDm g b75):=by
 rintro pins s σ H v vs u us Q I rv given ⟨x,xs,S,K,cells,rep,reps,told,res⟩
 unfold b75 at told
 split at told
 ·rename_i p d
  obtain ⟨w,rfl,rep2⟩:=one_of reps
  cases a0q rep
  obtain ⟨ds,at_p,few,k⟩:=told
  obtain ⟨ws,here,all⟩:=cells p _ at_p
  have P:=a0d.write (H:=H) (o:=.lst (ws ++ [w])) (c:=.lst (ds ++ [d])) at_p
  exact mt_append _ _ _ _ _ _ _ _ _ I rv given ⟨p,ws,w,rfl,rfl,here,by rw [← all.length];exact few,res _ _ _ _ k P (cells.write at_p ⟨_,upd_same,(all.append reps).mono P⟩) (by simp only [Rep])⟩
 ·exact told.elim
theorem b4S:MtR X "list.insert" (rDm g b8W):=by
 rintro pins s σ H v vs u us Q I rv given ⟨x,xs,S,K,cells,rep,reps,told,res⟩
 unfold b8W at told
 split at told
 ·rename_i p i d
  obtain ⟨wi,w,rfl,repi,rep2⟩:=a0X reps
  cases a0q rep
  cases a0f repi
  obtain ⟨ds,at_p,few,lo,hi,k⟩:=told
  obtain ⟨ws,here,all⟩:=cells p _ at_p
  have P:=a0d.write (H:=H) (o:=.lst (ws.take i.toNat ++ [w] ++ ws.drop i.toNat)) (c:=.lst (ds.take i.toNat ++ [d] ++ ds.drop i.toNat)) at_p
  have one:a0e g S H [d] [w]:=by simp only [a0e];exact ⟨w,[],rfl,rep2,rfl⟩
  exact mt_insert _ _ _ _ _ _ _ _ _ I rv given ⟨p,ws,i,w,rfl,rfl,here,by rw [← all.length];exact few,lo,hi,res _ _ _ _ k P (cells.write at_p ⟨_,upd_same,(((all.take _).append one).append (all.drop _)).mono P⟩) (by simp only [Rep])⟩
 ·exact told.elim
theorem a0e.dropLast {S:SS} {H:Hp} {ds:List D} {vs:List V} (h:a0e g S H ds vs):a0e g S H ds.dropLast vs.dropLast:=a3y (a6r (a2S h))
theorem b5w:MtR X "list.pop" (rDm g b9i):=by
 rintro pins s σ H v vs u us Q I rv given ⟨x,xs,S,K,cells,rep,reps,told,res⟩
 unfold b9i at told
 split at told
 ·rename_i p
  simp only [a0e] at reps
  subst reps
  cases a0q rep
  obtain ⟨ds,d,at_p,last,k⟩:=told
  obtain ⟨ws,here,all⟩:=cells p _ at_p
  obtain ⟨w,at_last,like⟩:=all.get last
  have P:=a0d.write (H:=H) (o:=.lst ws.dropLast) (c:=.lst ds.dropLast) at_p
  exact mt_pop _ _ _ _ _ _ _ _ _ I rv given ⟨p,ws,w,rfl,rfl,here,by rw [← all.length];exact at_last,res _ _ _ _ k P (cells.write at_p ⟨_,upd_same,all.dropLast.mono P⟩) (like.mono P)⟩
 ·rename_i p i
  obtain ⟨w0,rfl,repi⟩:=one_of reps
  cases a0q rep
  cases a0f repi
  obtain ⟨ds,d,k,at_p,rfl,at_k,small,kk⟩:=told
  obtain ⟨ws,here,all⟩:=cells p _ at_p
  obtain ⟨w,at_w,like⟩:=all.get at_k
  have lt:k < ws.length:=(List.getElem?_eq_some_iff.mp at_w).1
  have six:=(ixN_seq (n:=ws.length) (i:=(k:Int)) (j:=k) (by unfold ixN;rw [if_pos (by omega),if_pos (by omega)];simp)).1
  have P:=a0d.write (H:=H) (o:=.lst (ws.eraseIdx k)) (c:=.lst (ds.eraseIdx k)) at_p
  have er:a0e g S H (ds.eraseIdx k) (ws.eraseIdx k):=by
   rw [List.eraseIdx_eq_take_drop_succ,List.eraseIdx_eq_take_drop_succ]
   exact (all.take k).append (all.drop (k + 1))
  exact mt_popAt _ _ _ _ _ _ _ _ _ I rv given ⟨p,ws,k,k,w,rfl,rfl,here,by omega,small,six,at_w,res _ _ _ _ kk P (cells.write at_p ⟨_,upd_same,er.mono P⟩) (like.mono P)⟩
 ·exact told.elim
theorem a9U:MtR X "list.clear" (rDm g a8h):=by
 rintro pins s σ H v vs u us Q I rv given ⟨x,xs,S,K,cells,rep,reps,told,res⟩
 unfold a8h at told
 split at told
 ·rename_i p
  simp only [a0e] at reps
  subst reps
  cases a0q rep
  obtain ⟨ds,at_p,k⟩:=told
  obtain ⟨ws,here,all⟩:=cells p _ at_p
  exact mt_clear _ _ _ _ _ _ _ _ _ I rv given ⟨p,ws,rfl,rfl,here,res _ _ _ _ k (a0d.write at_p) (cells.write at_p ⟨[],upd_same,by simp only [a0e]⟩) (by simp only [Rep])⟩
 ·exact told.elim
theorem a6N {S:SS} {H:Hp} {kvs:List (Key × D)} {ws:List (Key × V)} (k:Key) (h:a0L g S H kvs ws):a0L g S H (a4w kvs k) (dropK ws k):=by
 have q:=a0R h
 refine a81 ?_
 clear h
 unfold a4w dropK
 induction q with
 | nil=>exact .nil
 | @cons x y l m r _ ih =>
  have same:decide (x.1≠k)=decide (y.1≠k):=by rw [r.1]
  rw [List.filter_cons,List.filter_cons]
  by_cases z:y.1≠k
  ·rw [same,zbg z,if_pos rfl,if_pos rfl]
   exact .cons r ih
  ·rw [same,zbf z,if_neg zbe,if_neg zbe]
   exact ih
theorem b1C:MtR X "dict.pop" (rDm g b1B):=by
 rintro pins s σ H v vs u us Q I rv given ⟨x,xs,S,K,cells,rep,reps,told,res⟩
 unfold b1B at told
 split at told
 ·rename_i p k0
  obtain ⟨w,rfl,rep2⟩:=one_of reps
  cases a0q rep
  cases (show u=Value.ref p from rv)
  obtain ⟨kvs,key,d,at_p,is,found,k⟩:=told
  obtain ⟨ws,here,all⟩:=cells p _ at_p
  cases a0V is rep2
  obtain ⟨uk,rfl,rk⟩:=Vals.one given
  rcases a1m all key with ⟨z,_⟩ | ⟨d2,w2,z1,z2,like⟩
  ·rw [found] at z;cases z
  ·rw [found] at z1
   cases z1
   have P:=a0d.write (H:=H) (o:=.dK (dropK ws key)) (c:=.dic (a4w kvs key)) at_p
   exact d_pop I here rk z2 (.inl rfl) fun w' s' I' rw'=>⟨w2,_,I',rw',res _ _ _ _ k P (cells.write at_p ⟨_,upd_same,(a6N key all).mono P⟩) (like.mono P)⟩
 ·exact told.elim
def a07 (kvs more:List (Key × D)):List (Key × D):=more.foldl (fun acc kv=>putD acc kv.1 kv.2) kvs
def c0Y (x:D) (xs:List D) (S:SS) (K:DK):Prop:=match x,xs with
 | .obj p,[.dic more]=>∃ kvs,S p=some (.dic kvs)∧kvs.length + more.length≤sizeLine∧K .non (S.set p (.dic (a07 kvs more)))
 | _,_=>False
theorem a3x {g:Gd} {S:SS} {H:Hp} {more:List (Key × D)}:∀ {ws:List (Key × V)} {kvs:List (Key × D)} {us:List (Key × V)},a0L g S H more ws→a0L g S H kvs us→a0L g S H (a07 kvs more) (mergeK us ws):=by
 induction more with
 | nil =>
  intro ws kvs us h q
  simp only [a0L] at h
  subst h
  exact q
 | cons p more ih =>
  intro ws kvs us h q
  obtain ⟨k,d⟩:=p
  simp only [a0L] at h
  obtain ⟨v,ws,rfl,r,h⟩:=h
  show a0L g S H (a07 (putD kvs k d) more) (mergeK (putK us k v) ws)
  exact ih h (a6q q k r)
theorem b6x:MtR X "dict.update" (rDm g c0Y):=by
 rintro pins s σ H v vs u us Q I rv given ⟨x,xs,S,K,cells,rep,reps,told,res⟩
 unfold c0Y at told
 split at told
 ·rename_i p more
  obtain ⟨w,rfl,rep2⟩:=one_of reps
  cases a0q rep
  cases (show u=Value.ref p from rv)
  obtain ⟨kvs,at_p,few,k⟩:=told
  obtain ⟨ws,here,all⟩:=cells p _ at_p
  simp only [Rep] at rep2
  obtain ⟨q,vs2,rfl,own,rd,all2⟩:=rep2
  obtain ⟨uk,rfl,rk⟩:=Vals.one given
  cases (show uk=Value.ref q from rk)
  have ne:p≠q:=fun e=>by rw [e,own] at at_p;cases at_p
  obtain ⟨z,hd,vals,rel,dd⟩:=dk_of I.hok here
  obtain ⟨z2,hd2,vals2,rel2,dd2⟩:=dk_rd I.hok (.inl rd)
  have l1:kvs.length=ws.length:=(a0R all).length
  have l2:more.length=vs2.length:=(a0R all2).length
  have room:(mergeK ws vs2).length≤sizeLine:=Nat.le_trans (length_mergeK vs2 ws) (by rw [← l1,← l2];exact few)
  refine call_meetsIn PySem.F.slot_dict_update dd.typeIs PySem.F.entry_dict_update (PySem.F.args_dict_update_2 _ _) (meets_dict_update (mixKind X.prog X.w) p q ne hd2) ⟨vals,vals2,dd,dd2,by rw [← rel.length,← rel2.length,← l1,← l2];exact few,fun h' dd' _ hs=>?_⟩
  have he:∃ o,h'.get? p=some o:=let ⟨o,_,_,ho,_⟩:=dd';⟨o,ho⟩
  have P:=a0d.write (H:=H) (o:=.dK (mergeK ws vs2)) (c:=.dic (a07 kvs more)) at_p
  exact ⟨.non,_,d_write I (by rw [here];exact True.intro) hs he (dk_new room hd (rel2.merge rel) dd'),rfl,res _ _ _ _ k P (cells.write at_p ⟨_,upd_same,(a3x all2 all).mono P⟩) (by simp only [Rep])⟩
 ·exact told.elim
theorem c2w {its:List Value} {h:Heap} {ds:List PyData} {d:PyData} (is:its.map (SeqAt.readOf h)=ds):its.countP (fun u=>PyData.eqv (SeqAt.readOf h u) d)=ds.countP fun z=>PyData.eqv z d:=by
 rw [← is,List.countP_map]
 rfl
theorem a9f:∀ ds:List D,D.pys ds=ds.map D.py
 | []=>rfl
 | d :: ds=>by rw [D.pys,a9f ds,zax]
theorem b3S (hK:g.K=X.K) (units:X.A.units + 65 < cLine):MtR X "list.count" (rDm g b8o):=by
 rintro pins s σ H v vs u us Q I rv given ⟨x,xs,S,K,cells,rep,reps,told,res⟩
 unfold b8o at told
 split at told
 ·rename_i d
  obtain ⟨w,rfl,rep2⟩:=one_of reps
  obtain ⟨ds,seen,flat,fine,k⟩:=told
  have fine2:D.okd 60 (.lst ds)=true:=by simp only [D.okd,zak];exact ⟨rfl,flat⟩
  have lay:Dp X.K H w (vw S d).py:=hK ▸ a2K cells rep2 rfl fine
  obtain ⟨p,ws,rfl,seq,all⟩:=a0k cells rep seen
  have lays:DpAll X.K H ws (D.pys ds):=hK ▸ a3o 59 flat all
  rw [hK] at seq
  cases (show u=Value.ref p from rv)
  obtain ⟨uw,rfl,rw2⟩:=Vals.one given
  obtain ⟨bs,r1⟩:=Dp.reads I _ _ _ lay rw2
  obtain ⟨its,rel,⟨⟨cls,dd,data,sls⟩,n,here,isL,_,dt⟩,_⟩:=I.list seq
  simp only at isL dt
  subst isL dt
  obtain ⟨as,r2⟩:=Dp.readsAll I _ _ its lays rel
  have can:PyData.canLayAll0 (D.pys ds)=true:=SeqAt.canLay_of_shaped (d:=.list (D.pys ds)) (a0n fine2)
  have room:X.A.units + 1 + min (PyData.depthAll (D.pys ds)) (vw S d).py.depth < cLine:=room_in_shaped (a0n fine) units
  have is:its.map (SeqAt.readOf s.heap)=D.pys ds:=SeqAt.readsAll_map _ its as can r2
  refine call_meets PySem.F.slot_list_count ⟨_,here,rfl⟩ PySem.F.entry_list_count (PySem.F.args_list_count_2 _ _) (SeqAt.list_countAt p its.toArray n dd sls uw fun u=>PyData.eqv (SeqAt.readOf s.heap u) (vw S d).py) ⟨here,SeqAt.items_eqAt (vs:=its.toArray) (show ReadsAll s.heap its.toArray.toList _ as from r2) r1 can (SeqAt.canLay_of_shaped (a0n fine)) room,?_⟩
  refine ⟨.int (ds.countP fun z=>D.eqv z (vw S d):Nat),H,I.tok _,⟨s.toks,?_⟩,res.int k cells⟩
  show Value.int ((its.toArray.toList.countP fun u=>PyData.eqv (SeqAt.readOf s.heap u) (vw S d).py:Nat):Int) s.toks=_
  rw [List.toList_toArray,c2w is,a9f,List.countP_map]
  rfl
 ·exact told.elim
end
end Sv
namespace Sv
open PySem PySem.Spec PyProof.Rows L2
open L2H (RoomH)
def tOm (C:Addr) (m:Str) (m0:Option (Addr × Obj)) (sp:SpM) (E:L2.St→XK) (to:TE) (t:TA):TE:=fun σ H Q=>to σ H fun x H1=>∃ a dx fs,x=.ref a∧H1 a=some (.ins C dx fs)∧fs.lookup m=none∧t σ H1 fun vs H2=>sp m0 (x :: vs) H2 Q (E σ)
def b2Z (C:Addr) (sp:SpM) (E:L2.St→XK) (t:TA):TE:=fun σ H Q=>t σ H fun vs H1=>∀ x dx,H1 x=none→H1 dx=none→dx≠x →
 sp none (.ref x :: vs) (upd (upd H1 dx (.own x)) x (.ins C dx [])) (fun v H2=>v=.non∧Q (.ref x) H2) (E σ)
section
variable {X:Cx} {hot:Bool} {m0:Option (Addr × Obj)} {k:Nat} {f C:Addr} {fd:FuncData} {ps:List Str} {sp:SpM} {E:L2.St→XK} {x m:Str} {q apos pos:Pos} {o e:Expr} {es:List Expr} {to:TE} {t:TA}
def b3t (X:Cx) (o:Expr) (m:Str) (apos:Pos) (es:List Expr) (pos:Pos) (pl:Sem Bool):Prop:=eval (.Call (.Attribute o m apos) es [] pos) X.env=(do
 let ov ← eval o X.env
 standAt apos.atName
 let (f,first) ← holding [ov] (getMethod ov m pl)
 callWith pos f first (backTo pos (starEach es X.env)) (backToKw pos (keywordEach [] X.env)))
theorem a7k {pins:List (Addr × Obj)} {σ:L2.St} {H:Hp} {s:Shared} {Q:VK} {us:List Value} {vs:List V} {a:Addr} (F:FnG X.prog X.w X.K X.mg X.base hot k f fd ps sp) (hh:m0.isSome=hot) (room:RoomH k X.A) (mode:a02 X m0) (binds:L2.Binds X.K fd ps [])
  (out:PassesAt (L2N.CX X.prog X.w) X σ (E σ)) (I:Inv X pins σ H s) (rv:Vals vs us) (want:sp m0 (.ref a :: vs) H Q (E σ)):wpAny (model X.prog X.w) X.A (call (.ref f) (.ref a :: us)) (EP X pins σ Q) X.xe s :=
 a6t (dvs:=[]) (vs:=.ref a :: vs) F hh room mode binds .nil out I (.cons rfl rv) (by rw [List.append_nil];exact want)
theorem b9g {pl:Sem Bool} (F:FnG X.prog X.w X.K X.mg X.base hot k f fd ps sp) (hh:m0.isSome=hot) (room:RoomH k X.A) (mode:a02 X m0) (cls:Cls X.K C) (is:Meth X.K C m f) (binds:L2.Binds X.K fd ps [])
  (out:∀ σ,PassesAt (L2N.CX X.prog X.w) X σ (E σ)) (recv:PE X o to) (args:PA X (e :: es) t) (form:b3t X o m apos (e :: es) pos pl) (plain:starEach (e :: es) X.env=(false,eval e X.env) :: starEach es X.env) (rest:(backTo pos (starEach es X.env)).any (·.1)=false) :
  PE X (.Call (.Attribute o m apos) (e :: es) [] pos) (tOm C m m0 sp E to t) where
 run pins s σ H Q I want:=PySem.W.methodCall_KW (thn (recv.run pins s σ H _ I want) fun u s1 ⟨x,H1,J,rx,a,dx,fs,isRef,at_a,free,go⟩=>by
  subst isRef
  cases (show u=Value.ref a from rx)
  exact getmeth_ok J at_a cls is free (PySem.W.callWith_K (first:=[.ref a]) (h₀:=X.base) J.ok.mod.kin is.kp
   (thn (args.run pos pins s1 σ H1 _ J go) fun us s2 ⟨vs,H2,J2,rv,want2⟩=>⟨J2.kIn,a7k F hh room mode binds (out σ) J2 rv want2⟩) plain rest)) form
theorem b5s {pl:Sem Bool} (F:FnG X.prog X.w X.K X.mg X.base hot k f fd ps sp) (hh:m0.isSome=hot) (room:RoomH k X.A) (mode:a02 X m0) (cls:Cls X.K C) (is:Meth X.K C m f) (binds:L2.Binds X.K fd ps [])
  (out:∀ σ,PassesAt (L2N.CX X.prog X.w) X σ (E σ)) (recv:PE X o to) (form:b3t X o m apos [] pos pl):PE X (.Call (.Attribute o m apos) [] [] pos) (tOm C m m0 sp E to tNil) where
 run pins s σ H Q I want:=PySem.W.methodCall_KW (thn (recv.run pins s σ H _ I want) fun u s1 ⟨x,H1,J,rx,a,dx,fs,isRef,at_a,free,go⟩=>by
  subst isRef
  cases (show u=Value.ref a from rx)
  exact getmeth_ok J at_a cls is free (PySem.W.callWith_K0 (first:=[.ref a]) J.kIn is.kp (a7k F hh room mode binds (out σ) J .nil go))) form
theorem b09 {pins:List (Addr × Obj)} {σ:L2.St} {H:Hp} {s:Shared} {Q:VK} {us:List Value} {vs:List V} (M:Mk X.K C f) (F:FnG X.prog X.w X.K X.mg X.base false k f fd ps sp) (room:RoomH (k + 1) X.A) (mode:a02 X none) (binds:L2.Binds X.K fd ps [])
  (out:PassesAt (L2N.CX X.prog X.w) X σ (E σ)) (I:Inv X pins σ H s) (rv:Vals vs us)
  (want:∀ x dx,H x=none→H dx=none→dx≠x→sp none (.ref x :: vs) (upd (upd H dx (.own x)) x (.ins C dx [])) (fun v H2=>v=.non∧Q (.ref x) H2) (E σ)):wpAny (model X.prog X.w) X.A (call (.ref C) us) (EP X pins σ Q) X.xe s:=by
 have young:=fun n (h:s.heap.objs.size≤n)=>I.hok.fresh h
 have asked:=want (s.heap.objs.size + 1) _ (young _ (Nat.le_add_right _ 1)) (young _ (Nat.le_refl _)) (Nat.ne_of_lt (Nat.lt_succ_self _))
 have J:=Inv.made (C:=C) I
 have given:Vals (V.ref (s.heap.objs.size + 1) :: vs) (Value.ref (s.heap.objs.size + 1) :: us):=.cons rfl rv
 have bound:=binds _ (Value.ref (s.heap.objs.size + 1) :: us) J.kIn (by rw [List.append_nil,← given.length];exact F.len _ _ _ _ _ rfl asked)
 rw [List.append_nil] at bound
 have inner:=F.run _ X.stack _ _ ⟨Value.ref (s.heap.objs.size + 1) :: us,[]⟩ _ _ _ (E σ) none rfl (room.make C us []) ⟨mode.1,show (X.A.under _).handled=none from J.ok.hd mode.2⟩ (J.env0.make C us []) bound given asked
 apply wpAny_call
 apply make_map (f:=f) I.kIn M.makes M.init (beq_iff_eq.mp M.fn)
 apply codeAny_mono inner
 rintro (err | (_ | u | _ | _)) s2 told
 ·exact out _ _ _ _ _ J told
 all_goals first | exact told.elim | skip
 obtain ⟨v,H2,J2,like,rfl,done⟩:=J.after told
 exact ⟨like,.ref _,H2,J2,rfl,done⟩
theorem pe_mk (M:Mk X.K C f) (F:FnG X.prog X.w X.K X.mg X.base false k f fd ps sp) (room:RoomH (k + 1) X.A) (mode:a02 X none) (gl:Gl X x) (at_x:X.mg x=some (.ref C)) (db:(x == ("__debug__" : Str))=false) (binds:L2.Binds X.K fd ps [])
  (out:∀ σ,PassesAt (L2N.CX X.prog X.w) X σ (E σ)) (args:PA X (e :: es) t) (plain:starEach (e :: es) X.env=(false,eval e X.env) :: starEach es X.env) (rest:(backTo pos (starEach es X.env)).any (·.1)=false) :
  PE X (.Call (.Name x q) (e :: es) [] pos) (b2Z C sp E t) where
 run pins s σ H Q I want:=wpAny_Call_Name_kw (ld_glob I gl at_x (PySem.W.callWith_K (h₀:=X.base) I.ok.mod.kin M.kp
  (thn (args.run pos pins s σ H _ I want) fun us s1 ⟨vs,H1,J,rv,go⟩=>⟨J.kIn,b09 M F room mode binds (out σ) J rv go⟩) plain rest) db)
theorem b5p (M:Mk X.K C f) (F:FnG X.prog X.w X.K X.mg X.base false k f fd ps sp) (room:RoomH (k + 1) X.A) (mode:a02 X none) (gl:Gl X x) (at_x:X.mg x=some (.ref C)) (db:(x == ("__debug__" : Str))=false) (binds:L2.Binds X.K fd ps [])
  (out:∀ σ,PassesAt (L2N.CX X.prog X.w) X σ (E σ)):PE X (.Call (.Name x q) [] [] pos) (b2Z C sp E tNil) where
 run pins s σ H Q I want:=wpAny_Call_Name_kw (ld_glob I gl at_x (PySem.W.callWith_K0 I.kIn M.kp (b09 M F room mode binds (out σ) I .nil want)) db)
end
def c0N (te:TE):TE:=fun σ H Q=>te σ H fun x H1=>∃ (d:Addr) (kvs:List (Key × V)),x=.ref d∧H1 d=some (.dK kvs)∧∀ p,H1 p=none→Q (.ref p) (upd H1 p (.lst (kvs.map (·.2))))
section
variable {X:Cx} {e:Expr} {te:TE} {p apos cpos pos:Pos}
theorem b2G (calm:X.calm=true) (he:PE X e te) (gl:Gl X "list") (free:X.mg "list" = none) (base:attributeBase e "values" X.env (eval e X.env)=eval e X.env) (line:(apos.endLine == cpos.line)=true) :
  PE X (.Call (.Name "list" p) [.Call (.Attribute e "values" apos) [] [] cpos] [] pos) (c0N te) where
 run pins s σ H Q I want:=by
  refine wpAny_Call_Name_kw (ld_blt I gl free (u:=.type "list") (by decide +kernel) (PyProof.Rows.callWith_type1 (Calls.spliced_cons ?_) rfl rfl))
  refine wpAny_Call_method (T := "dict") (id := "dict.values") base rfl line PySem.F.plainAttrs_dict PySem.F.slot_dict_values PySem.F.type_dict_values (thn (he.run pins s σ H _ I want) ?_)
  rintro u s1 ⟨x,H1,J,rx,d,kvs,rfl,at_d,go⟩
  cases (show u=Value.ref d from rx)
  obtain ⟨few,notSys,vs,kv,isD⟩:=J.hok d _ at_d
  obtain ⟨ep,lies⟩:=isD.dictAt
  have same:kvs.length=vs.length:=Paired.length kv
  have J2:Inv X pins σ H1 { s1 with heap:=s1.heap.push { cls:=.type "dict_values",data:=.fields #[.ref d] } }:=J.kept (t':=s1.toks) fun b ob z=>Heap.get?_push_of_some _ z
  refine ⟨isD.typeIs,isD.mapOf.noDict,?_⟩
  refine method_meetsIn PySem.F.slot_dict_values PySem.F.entry_dict_values rfl (PySem.evalArgs_none ⟨rfl,isD.typeIs,PySem.F.args_dict_values_1 _,_,meets_dict_values (mixKind X.prog X.w) d notSys,⟨vs,isD⟩,?_⟩)
  refine Calls.spliced_nil ?_
  refine PySem.W.kdl_call (PySem.W.kdl_values (knd:=mixKind X.prog X.w) (kvs:=vs) (ep:=ep)) (J.ok.hd calm) ⟨⟨_,Heap.get?_push_size _ rfl,rfl,rfl⟩,lies.push _⟩ (by rw [← same];exact few) fun h' tk acc c keep made told=>?_
  have like:Vals (kvs.map (·.2)) acc.toList:=vals_of_at (by rw [zag,same];simpa using told.1.symm) fun j x w h1 h2=>by
   obtain ⟨k,at_j⟩:=told.2 j w (by rw [← Array.getElem?_toList];exact h2)
   rw [zbh,zam] at h1
   obtain ⟨y,at_y,rfl⟩:=h1
   obtain ⟨z,at_z,_,rel⟩:=LiI.paired_get kv at_y
   rw [at_j] at at_z
   cases at_z
   exact rel
  exact ⟨.ref _,_,J2.laid (t':=tk) (o:=.lst (kvs.map (·.2))) keep (Nat.le_refl _) ⟨by rw [zag];exact few,acc.toList,c,like,by rw [Array.toArray_toList];exact made⟩,rfl,go _ (J2.hok.fresh (Nat.le_refl _))⟩
end
end Sv
namespace Sv
open PySem PySem.Spec PyProof.Rows L2
def a7d:List D→Option (List (Key × D))
 | []=>some []
 | .tup [k,v] :: r=>match keyD k,a7d r with
  | some key,some q=>some ((key,v) :: q)
  | _,_=>none
 | _=>none
def a8j (cell:Bool) (xs:List D) (S:SS) (K:DK):Prop:=match xs with
 | [d]=>∃ ps kvs,vw S d=.lst ps∧a7d ps=some kvs∧outK cell (a07 [] kvs) S K
 | _=>False
def b74 (xs:List D) (S:SS) (K:DK):Prop:=match xs with
 | [d]=>∃ bs:List Bool,vw S d=.lst (bs.map D.bl)∧K (.bl (bs.all id)) S
 | _=>False
def c0M (xs:List D) (S:SS) (K:DK):Prop:=match xs with
 | [d]=>∃ ns:List Int,vw S d=.lst (ns.map D.int)∧K (.int ns.sum) S
 | _=>False
def c0L (xs:List D) (S:SS) (K:DK):Prop:=match xs with
 | [.int i]=>i.natAbs.log2 < 1920∧K (.str (toString i)) S
 | [.str z]=>K (.str z) S
 | _=>False
def keyV:Key→D
 | .inl i=>.int i | .inr x=>.str x
def a8R (cell:Bool) (xs:List D) (S:SS) (K:DK):Prop:=match xs with
 | [d]=>∃ kvs,vw S d=.dic kvs∧outL cell (kvs.map fun kv=>keyV kv.1) S K
 | _=>False
def a8S (cell:Bool) (xs:List D) (S:SS) (K:DK):Prop:=match xs with
 | [d]=>∃ z,d=.str z∧z.cps.size≤sizeLine∧outL cell (z.cps.toList.map fun c=>D.str ⟨#[c]⟩) S K
 | _=>False
def b8N (x:D) (xs:List D) (S:SS) (K:DK):Prop:=match x,xs with
 | .obj p,[d]=>∃ ds q es,S p=some (.lst ds)∧d=.obj q∧S q=some (.lst es)∧ds.length + es.length≤sizeLine∧K .non (S.set p (.lst (ds ++ es)))
 | _,_=>False
def b00 (x:D) (S:SS):Prop:=(∃ kvs,x=.dic kvs)∨∃ p kvs,x=.obj p∧S p=some (.dic kvs)
def b1x (x:D) (xs:List D) (S:SS) (K:DK):Prop:=match xs with
 | [k]=>∃ kvs key,vw S x=.dic kvs∧keyD k=some key∧K ((valD kvs key).getD .non) S
 | [k,z]=>∃ kvs key,vw S x=.dic kvs∧keyD k=some key∧K ((valD kvs key).getD z) S
 | _=>False
def b1D (x:D) (xs:List D) (S:SS) (K:DK):Prop:=match x,xs with
 | .obj p,[k,z]=>∃ kvs key,S p=some (.dic kvs)∧keyD k=some key∧kvs.length < sizeLine∧(∀ d,valD kvs key=some d→K d S)∧(valD kvs key=none→K z (S.set p (.dic (putD kvs key z))))
 | _,_=>False
def a8k (x:D) (xs:List D) (S:SS) (K:DK):Prop:=match x,xs with
 | .obj p,[k,z]=>∃ kvs key,S p=some (.dic kvs)∧keyD k=some key∧(∀ d,valD kvs key=some d→K d (S.set p (.dic (a4w kvs key))))∧(valD kvs key=none→K z S)
 | _,_=>False
def b8V (x:D) (xs:List D) (S:SS) (K:DK):Prop:=match xs with
 | [d]=>∃ ds j z,vw S x=.lst ds∧a1z d=true∧ds.all a1z=true∧ds[j]?=some z∧D.eqv z d=true∧(∀ m z',m < j→ds[m]?=some z'→D.eqv z' d=false)∧K (.int (j:Nat)) S
 | _=>False
section
variable {X:Cx} {g:Gd} {S:SS} {H:Hp}
theorem a7j:∀ (bs:List Bool) {vs:List V},a0e g S H (bs.map D.bl) vs→vs=bs.map V.bl
 | [],_,r=>by simp only [List.map_nil,a0e] at r;exact r
 | z :: zs,_,r=>by
  simp only [zax,a0e] at r
  obtain ⟨v,q,rfl,one,more⟩:=r
  rw [a2A one,a7j zs more,zax]
theorem a3F:∀ (bs:List Int) {vs:List V},a0e g S H (bs.map D.int) vs→vs=bs.map V.int
 | [],_,r=>by simp only [List.map_nil,a0e] at r;exact r
 | z :: zs,_,r=>by
  simp only [zax,a0e] at r
  obtain ⟨v,q,rfl,one,more⟩:=r
  rw [a0f one,a3F zs more,zax]
theorem pairs_at (hK:g.K=X.K):∀ {ps:List D} {kvs:List (Key × D)} {vs:List V},a7d ps=some kvs→a0e g S H ps vs→∃ as ws,vs=as.map V.ref∧Paired (fun p kv=>SqT X.K H p [kV kv.1,kv.2]) as ws∧a0L g S H kvs ws
 | [],kvs,vs,e,r=>by
  cases e
  simp only [a0e] at r
  subst r
  exact ⟨[],[],rfl,.nil,by simp only [a0L]⟩
 | d :: r0,kvs,vs,e,r=>by
  simp only [a0e] at r
  obtain ⟨v,q,rfl,one,more⟩:=r
  unfold a7d at e
  split at e
  ·rename_i e0
   cases e0
  ·rename_i k z r1 e0
   obtain ⟨rfl,rfl⟩:=List.cons.inj e0
   split at e
   ·rename_i key kv ek er
    cases e
    obtain ⟨as,ws,rfl,pw,rk⟩:=pairs_at hK er more
    simp only [Rep] at one
    obtain ⟨p,us,rfl,at_p,all⟩:=one
    obtain ⟨w1,w2,rfl,r1,r2⟩:=a0X all
    cases a0V ek r1
    refine ⟨p :: as,(key,w2) :: ws,rfl,.cons ?_ pw,by simp only [a0L];exact ⟨w2,ws,rfl,r2,rk⟩⟩
    rw [← hK]
    exact at_p.sq
   ·cases e
  ·cases e
theorem a9Z (calm:X.calm=true) (hK:g.K=X.K) (cell:Bool):CallR X (.type "dict") (rDc g (a8j cell)):=by
 rintro pins s σ H vs us Q I given ⟨xs,S,K,cells,reps,told,res⟩
 unfold a8j at told
 split at told
 ·obtain ⟨v,rfl,rep⟩:=one_of reps
  obtain ⟨ps,kvs,seen,is,k⟩:=told
  obtain ⟨p,ws,rfl,seq,all⟩:=a0k cells rep seen
  rw [hK] at seq
  obtain ⟨as,us2,rfl,pw,rk⟩:=pairs_at hK is all
  exact call_dictP calm _ _ _ _ _ _ _ I given ⟨p,as,us2,rfl,seq,pw,fun q free=>res.outK k cells (a3x rk (by simp only [a0L])) free⟩
 ·exact told.elim
theorem b0e {kvs:List (Key × D)} {ws:List (Key × V)} (h:a0L g S H kvs ws):a0e g S H (kvs.map fun kv=>keyV kv.1) (ws.map fun kv=>kV kv.1):=by
 have q:=a0R h
 clear h
 refine a3y ?_
 induction q with
 | nil=>exact .nil
 | @cons x y l m r _ ih =>
  refine .cons ?_ ih
  show Rep g S H (keyV x.1) (kV y.1)
  rw [r.1]
  cases y.1 <;> (show Rep g S H _ _;unfold keyV;simp only [Rep];rfl)
theorem b0i (calm:X.calm=true) (cell:Bool):CallR X (.type "list") (rDc g (a8R cell)):=by
 rintro pins s σ H vs us Q I given ⟨xs,S,K,cells,reps,told,res⟩
 unfold a8R at told
 split at told
 ·obtain ⟨v,rfl,rep⟩:=one_of reps
  obtain ⟨kvs,seen,k⟩:=told
  obtain ⟨p,ws,rfl,rd,all⟩:=a1g cells rep seen
  exact call_listD calm _ _ _ _ _ _ _ I given ⟨p,ws,rfl,rd,fun q free=>res.outL k cells (b0e all) free⟩
 ·exact told.elim
theorem a4k:∀ {l:List Nat} {us:List Value},us.length=l.length→(∀ (j:Nat) (v:Value),us[j]?=some v→∃ c u,l[j]?=some c∧v=.str ⟨#[c]⟩ u)→Vals (l.map fun c=>V.str ⟨#[c]⟩) us
 | [],[],_,_=>.nil
 | c :: l,v :: us,hl,h=>by
  obtain ⟨c',u,e1,e2⟩:=h 0 v rfl
  have e1:c=c':=Option.some.inj e1
  subst e1
  rw [zax]
  exact .cons ⟨u,e2⟩ (a4k (by simpa using hl) fun j v e=>by
   obtain ⟨c,u,a,b⟩:=h (j + 1) v (by simpa using e)
   exact ⟨c,u,by simpa using a,b⟩)
theorem a7w (hcalm:X.calm=true):CallR X (.type "list") (fun xs H Q=>∃ z:Str,xs=[.str z]∧z.cps.size≤sizeLine∧∀ p,H p=none→Q (.ref p) (upd H p (.lst (z.cps.toList.map fun c=>V.str ⟨#[c]⟩)))):=by
 intro pins s σ H xs us Q I r q
 obtain ⟨z,ex,hz,q⟩:=q
 subst ex
 obtain ⟨u,eu,rx⟩:=vals1 r
 subst eu
 obtain ⟨t,rfl⟩:=rx
 refine call_list_str (I.ok.hd hcalm) z t (fun h' tk acc c' hk hD hacc=>?_) hz
 have hv:Vals (z.cps.toList.map fun c=>V.str ⟨#[c]⟩) acc.toList:=a4k (by rw [Array.length_toList,Array.length_toList];exact hacc.1) fun j v e=>by
  obtain ⟨c,u,h1,h2⟩:=hacc.2 j v (by rw [← Array.getElem?_toList];exact e)
  exact ⟨c,u,by rw [Array.getElem?_toList];exact h1,h2⟩
 exact ⟨.ref s.heap.objs.size,upd H s.heap.objs.size (.lst (z.cps.toList.map fun c=>V.str ⟨#[c]⟩)),I.laid (t':=tk) hk (Nat.le_refl _)
  (show ObjOk X.prog X.w _ _ _ (.lst _) from ⟨by rw [zag,Array.length_toList];exact hz,acc.toList,c',hv,by rw [Array.toArray_toList];exact hD⟩),rfl,q _ (I.hok.fresh (Nat.le_refl _))⟩
theorem a9r {l:List Nat}:a0e g S H (l.map fun c=>D.str ⟨#[c]⟩) (l.map fun c=>V.str ⟨#[c]⟩):=by
 refine a3y ?_
 induction l with
 | nil=>exact .nil
 | cons c l ih =>
  refine .cons ?_ ih
  show Rep g S H (.str _) (V.str _)
  simp only [Rep]
theorem b4x:MtR X "list.extend" (rDm g b8N):=by
 rintro pins s σ H v vs u us Q I rv given ⟨x,xs,S,K,cells,rep,reps,told,res⟩
 unfold b8N at told
 split at told
 ·rename_i p d
  obtain ⟨w,rfl,rep2⟩:=one_of reps
  cases a0q rep
  obtain ⟨ds,q,es,at_p,rfl,at_q,few,k⟩:=told
  cases a0q rep2
  obtain ⟨ws,here,all⟩:=cells p _ at_p
  obtain ⟨ws2,here2,all2⟩:=cells q _ at_q
  have P:=a0d.write (H:=H) (o:=.lst (ws ++ ws2)) (c:=.lst (ds ++ es)) at_p
  exact mt_extend _ _ _ _ _ _ _ _ _ I rv given ⟨p,q,ws,ws2,rfl,rfl,here,here2,by rw [← all.length,← all2.length];exact few,res _ _ _ _ k P (cells.write at_p ⟨_,upd_same,(all.append all2).mono P⟩) (by simp only [Rep])⟩
 ·exact told.elim
theorem b0j (calm:X.calm=true) (cell:Bool):CallR X (.type "list") (rDc g (a8S cell)):=by
 rintro pins s σ H vs us Q I given ⟨xs,S,K,cells,reps,told,res⟩
 unfold a8S at told
 split at told
 ·obtain ⟨v,rfl,rep⟩:=one_of reps
  obtain ⟨z,rfl,hz,k⟩:=told
  have ev:v=.str z:=by simpa only [Rep] using rep
  subst ev
  exact a7w calm _ _ _ _ _ _ _ I given ⟨z,rfl,hz,fun q free=>res.outL k cells a9r free⟩
 ·exact told.elim
theorem b3I (calm:X.calm=true) (hK:g.K=X.K):CallR X (.builtin "all") (rDc g b74):=by
 rintro pins s σ H vs us Q I given ⟨xs,S,K,cells,reps,told,res⟩
 unfold b74 at told
 split at told
 ·obtain ⟨v,rfl,rep⟩:=one_of reps
  obtain ⟨bs,seen,k⟩:=told
  obtain ⟨p,ws,rfl,seq,all⟩:=a0k cells rep seen
  rw [hK] at seq
  cases a7j bs all
  exact cr_all calm _ _ _ _ _ _ _ I given ⟨p,bs,rfl,seq,res.bl k cells⟩
 ·exact told.elim
theorem b6m (calm:X.calm=true) (hK:g.K=X.K):CallR X (.builtin "sum") (rDc g c0M):=by
 rintro pins s σ H vs us Q I given ⟨xs,S,K,cells,reps,told,res⟩
 unfold c0M at told
 split at told
 ·obtain ⟨v,rfl,rep⟩:=one_of reps
  obtain ⟨bs,seen,k⟩:=told
  obtain ⟨p,ws,rfl,seq,all⟩:=a0k cells rep seen
  rw [hK] at seq
  cases a3F bs all
  exact cr_sum calm _ _ _ _ _ _ _ I given ⟨p,bs,rfl,seq,res.int k cells⟩
 ·exact told.elim
theorem str_ok:CallR X (.type "str") (rDc g c0L):=by
 rintro pins s σ H vs us Q I given ⟨xs,S,K,cells,reps,told,res⟩
 unfold c0L at told
 split at told
 ·obtain ⟨v,rfl,rep⟩:=one_of reps
  cases a0f rep
  exact call_str_int _ _ _ _ _ _ _ I given ⟨_,rfl,told.1,res.str told.2 cells⟩
 ·obtain ⟨v,rfl,rep⟩:=one_of reps
  cases a0u rep
  obtain ⟨u,rfl,t,rfl⟩:=vals1 given
  exact PySem.P.str_of_str ⟨.str _,H,I,⟨t,rfl⟩,res.str told cells⟩
 ·exact told.elim
theorem b0N {x:D} {v:V} {K:zbj} (cells:CellsOk g S H) (rep:Rep g S H x v) (h:b00 x S):tyV K "dict" v H:=by
 rcases h with ⟨kvs,rfl⟩ | ⟨p,kvs,rfl,at_p⟩
 ·simp only [Rep] at rep
  obtain ⟨p,ws,rfl,_,here,_⟩:=rep
  exact .inr (.inr (.inl ⟨rfl,.inl ⟨ws,here⟩⟩))
 ·cases a0q rep
  obtain ⟨ws,here,_⟩:=cells p _ at_p
  exact .inr (.inr (.inl ⟨rfl,.inl ⟨ws,here⟩⟩))
theorem b1y (hu:X.A.units + 1 < cLine):MtR X "dict.get" (rDm g b1x):=by
 rintro pins s σ H v vs u us Q I rv given ⟨x,xs,S,K,cells,rep,reps,told,res⟩
 unfold b1x at told
 split at told
 ·obtain ⟨w,rfl,rep2⟩:=one_of reps
  obtain ⟨kvs,key,seen,is,k⟩:=told
  obtain ⟨p,ws,rfl,rd,all⟩:=a1g cells rep seen
  cases a0V is rep2
  cases (show u=Value.ref p from rv)
  obtain ⟨uk,rfl,rk⟩:=Vals.one given
  refine d_get1 hu I (.inl ⟨ws,key,rd,rfl,rfl⟩) rk fun w' s' I' rw'=>?_
  rcases a1m all key with ⟨z1,z2⟩ | ⟨d2,w2,z1,z2,like⟩
  ·rw [z2] at rw'
   rw [z1] at k
   exact ⟨_,H,I',rw',res.non k cells⟩
  ·rw [z2] at rw'
   rw [z1] at k
   exact ⟨_,H,I',rw',res.val k cells like⟩
 ·obtain ⟨w,w2,rfl,rep2,rep3⟩:=a0X reps
  obtain ⟨kvs,key,seen,is,k⟩:=told
  obtain ⟨p,ws,rfl,rd,all⟩:=a1g cells rep seen
  cases a0V is rep2
  cases (show u=Value.ref p from rv)
  obtain ⟨uk,ud,rfl,rk,rd2⟩:=Vals.two given
  refine d_get2 hu I (.inl ⟨ws,key,rd,rfl,rfl⟩) rk rd2 fun w' s' I' rw'=>?_
  rcases a1m all key with ⟨z1,z2⟩ | ⟨d2,w3,z1,z2,like⟩
  ·rw [z2] at rw'
   rw [z1] at k
   exact ⟨_,H,I',rw',res.val k cells rep3⟩
  ·rw [z2] at rw'
   rw [z1] at k
   exact ⟨_,H,I',rw',res.val k cells like⟩
 ·exact told.elim
theorem b1E:MtR X "dict.setdefault" (rDm g b1D):=by
 rintro pins s σ H v vs u us Q I rv given ⟨x,xs,S,K,cells,rep,reps,told,res⟩
 unfold b1D at told
 split at told
 ·rename_i p k0 z0
  obtain ⟨w,w2,rfl,rep2,rep3⟩:=a0X reps
  cases a0q rep
  cases (show u=Value.ref p from rv)
  obtain ⟨kvs,key,at_p,is,few,k1,k2⟩:=told
  obtain ⟨ws,here,all⟩:=cells p _ at_p
  cases a0V is rep2
  obtain ⟨uk,ud,rfl,rk,rd2⟩:=Vals.two given
  refine d_setd I here rk rd2 (by rw [← (a0R all).length];exact few) (fun v hv w' s' I' rw'=>?_) (fun hn w' s' I' rw'=>?_)
  ·rcases a1m all key with ⟨z1,z2⟩ | ⟨d2,w3,z1,z2,like⟩
   ·rw [hv] at z2;cases z2
   ·rw [hv] at z2
    cases z2
    exact ⟨_,H,I',rw',res.val (k1 _ z1) cells like⟩
  ·rcases a1m all key with ⟨z1,z2⟩ | ⟨d2,w3,z1,z2,like⟩
   ·have P:=a0d.write (H:=H) (o:=.dK (putK ws key w2)) (c:=.dic (putD kvs key z0)) at_p
    exact ⟨_,_,I',rw',res _ _ _ _ (k2 z1) P (cells.write at_p ⟨_,upd_same,(a6q all key rep3).mono P⟩) (rep3.mono P)⟩
   ·rw [hn] at z2;cases z2
 ·exact told.elim
theorem a90:MtR X "dict.pop" (rDm g a8k):=by
 rintro pins s σ H v vs u us Q I rv given ⟨x,xs,S,K,cells,rep,reps,told,res⟩
 unfold a8k at told
 split at told
 ·rename_i p k0 z0
  obtain ⟨w,w2,rfl,rep2,rep3⟩:=a0X reps
  cases a0q rep
  cases (show u=Value.ref p from rv)
  obtain ⟨kvs,key,at_p,is,k1,k2⟩:=told
  obtain ⟨ws,here,all⟩:=cells p _ at_p
  cases a0V is rep2
  obtain ⟨uk,ud,rfl,rk,rd2⟩:=Vals.two given
  rcases a1m all key with ⟨z1,z2⟩ | ⟨d2,w3,z1,z2,like⟩
  ·exact d_popD I here rk z2 fun s' I'=>⟨_,H,I',rd2,res.val (k2 z1) cells rep3⟩
  ·have P:=a0d.write (H:=H) (o:=.dK (dropK ws key)) (c:=.dic (a4w kvs key)) at_p
   exact d_pop I here rk z2 (.inr ⟨_,rfl⟩) fun w' s' I' rw'=>⟨w3,_,I',rw',res _ _ _ _ (k1 _ z1) P (cells.write at_p ⟨_,upd_same,(a6N key all).mono P⟩) (like.mono P)⟩
 ·exact told.elim
theorem b4R (hK:g.K=X.K):MtR X "list.index" (rDm g b8V):=by
 rintro pins s σ H v vs u us Q I rv given ⟨x,xs,S,K,cells,rep,reps,told,res⟩
 unfold b8V at told
 split at told
 ·rename_i d
  obtain ⟨w,rfl,rep2⟩:=one_of reps
  obtain ⟨ds,j,z,seen,fd,fds,at_j,same,other,k⟩:=told
  obtain ⟨p,ws,rfl,seq,all⟩:=a0k cells rep seen
  rw [hK] at seq
  obtain ⟨wz,at_w,rz⟩:=all.get at_j
  have fz:a1z z=true:=List.all_eq_true.mp fds z (zaq at_j)
  refine mt_index _ _ _ _ _ _ _ _ _ I rv given ⟨p,ws,w,j,wz,rfl,rfl,seq,a2B fd rep2,a1A fds all,at_w,(a3r fz fd rz rep2).trans same,fun m z' hm hz'=>?_,res.int k cells⟩
  have hlt:m < ds.length:=by rw [all.length];exact (List.getElem?_eq_some_iff.mp hz').1
  have at_m:ds[m]?=some ds[m]:=zbi hlt
  obtain ⟨w',at_w',r'⟩:=all.get at_m
  rw [hz'] at at_w'
  cases at_w'
  have fm:a1z ds[m]=true:=List.all_eq_true.mp fds _ (List.getElem_mem hlt)
  exact (a3r fm fd r' rep2).trans (other m _ hm at_m)
 ·exact told.elim
def c3g:V→List V→Hp→VK→Prop:=fun x xs H Q=>∃ (a:Addr) (ys:List V) (y:V) (j:Nat) (z:V),x=V.ref a∧xs=[y]∧H a=some (.lst ys)∧flatV y=true∧ys.all flatV=true∧ys[j]?=some z∧eqV z y=true ∧
 (∀ (m:Nat) (z':V),m < j→ys[m]?=some z'→eqV z' y=false)∧Q .non (upd H a (.lst (ys.eraseIdx j)))
theorem b5c:MtR X "list.remove" c3g:=by
 intro pins s σ H x xs v us Q I rx rxs h
 obtain ⟨a,ys,y,j,z,rfl,rfl,hH,fy,fys,hz,hzj,hno,q⟩:=h
 cases rx
 cases rxs with
 | cons ry rt =>
  rename_i uy ut
  cases rt
  obtain ⟨sz,its,n,rv,hl,e⟩:=I.lstM hH
  obtain ⟨u,hu,ru⟩:=rv.get hz
  obtain ⟨hjl,hje⟩:=List.getElem?_eq_some_iff.mp hu
  have hvl:=rv.length
  have hj:j < its.toArray.size:=by simpa using hjl
  refine call_meets PySem.F.slot_list_remove ⟨_,e,rfl⟩ PySem.F.entry_list_remove (PySem.F.args_list_remove_2 _ _)
   (SeqAt.list_removeAt a its.toArray n none #[] uy (eqU y) j hj ?_ ?_ (by rw [List.size_toArray];omega)) ⟨e,fun u' hu'=>mem_eqAt ry fy rv fys u' (by simpa using hu'),?_⟩
  ·have e1:its.toArray[j]=u:=by simpa using hje
   rw [e1,eqU_of ru (flat_at fys hz)]
   exact hzj
  ·intro m hm hmj
   have hml:m < its.length:=by simpa using hm
   have hmy:m < ys.length:=by omega
   have hy':ys[m]?=some ys[m]:=zbi hmy
   obtain ⟨u2,hu2,ru2⟩:=rv.get hy'
   obtain ⟨_,hme⟩:=List.getElem?_eq_some_iff.mp hu2
   have e1:its.toArray[m]=u2:=by simpa using hme
   rw [e1,eqU_of ru2 (flat_at fys hy')]
   exact hno m _ hmj hy'
  ·refine ⟨.non,_,I.lset (its':=its.eraseIdx j) hH e ?_ (rv.eraseIdx j) ?_,rfl,q⟩
   ·show its.toArray.eraseIdxIfInBounds j=(its.eraseIdx j).toArray
    rw [List.eraseIdxIfInBounds_toArray]
   ·have:=len_erase ys j
    omega
def b9m (x:D) (xs:List D) (S:SS) (K:DK):Prop:=match x,xs with
 | .obj p,[d]=>∃ ds j z,S p=some (.lst ds)∧a1z d=true∧ds.all a1z=true∧ds[j]?=some z∧D.eqv z d=true∧(∀ m z',m < j→ds[m]?=some z'→D.eqv z' d=false)∧K .non (S.set p (.lst (ds.eraseIdx j)))
 | _,_=>False
theorem b5z:MtR X "list.remove" (rDm g b9m):=by
 rintro pins s σ H v vs u us Q I rv given ⟨x,xs,S,K,cells,rep,reps,told,res⟩
 unfold b9m at told
 split at told
 ·rename_i p d
  obtain ⟨w,rfl,rep2⟩:=one_of reps
  cases a0q rep
  obtain ⟨ds,j,z,at_p,fd,fds,at_j,same,other,k⟩:=told
  obtain ⟨ws,here,all⟩:=cells p _ at_p
  obtain ⟨wz,at_w,rz⟩:=all.get at_j
  have fz:a1z z=true:=List.all_eq_true.mp fds z (zaq at_j)
  have P:=a0d.write (H:=H) (o:=.lst (ws.eraseIdx j)) (c:=.lst (ds.eraseIdx j)) at_p
  have er:a0e g S H (ds.eraseIdx j) (ws.eraseIdx j):=by
   rw [List.eraseIdx_eq_take_drop_succ,List.eraseIdx_eq_take_drop_succ]
   exact (all.take j).append (all.drop (j + 1))
  refine b5c _ _ _ _ _ _ _ _ _ I rv given ⟨p,ws,w,j,wz,rfl,rfl,here,a2B fd rep2,a1A fds all,at_w,(a3r fz fd rz rep2).trans same,fun m z' hm hz'=>?_,res _ _ _ _ k P (cells.write at_p ⟨_,upd_same,er.mono P⟩) (by simp only [Rep])⟩
  have hlt:m < ds.length:=by rw [all.length];exact (List.getElem?_eq_some_iff.mp hz').1
  have at_m:ds[m]?=some ds[m]:=zbi hlt
  obtain ⟨w',at_w',r'⟩:=all.get at_m
  rw [hz'] at at_w'
  cases at_w'
  have fm:a1z ds[m]=true:=List.all_eq_true.mp fds _ (List.getElem_mem hlt)
  exact (a3r fm fd r' rep2).trans (other m _ hm at_m)
 ·exact told.elim
end
end Sv
namespace Sv
open PySem PySem.Spec PyProof.Rows L2 PySem.Froz
def a9H (P:Program) (w:World) (h:Heap) (a:Addr) (l:List Str):Prop :=
 ∃ D:SD,h.get? a=some (sObj "set" D)∧TxOk P w D l∧Ris D.2.2.place.toList∧(w.params.followText "set-order" = true∨D.2.2.led=true)
theorem a9H.keep {P:Program} {w:World} {h h':Heap} {a:Addr} {l:List Str} (t:a9H P w h a l) (k:∀ o,h.get? a=some o→h'.get? a=some o):a9H P w h' a l:=by
 obtain ⟨D,at_a,r⟩:=t
 exact ⟨D,k _ at_a,r⟩
theorem a8a {h:Int} {v:Value} {D:SD} (r:Ris D.2.2.place.toList):Ris (addTx h v D).2.2.place.toList∧(addTx h v D).2.2.led=D.2.2.led:=by
 have r1:=layNew_ris D.2.2 D.1 h v r
 have l1:=layNew_led D.2.2 D.1 h v
 have key:∀ t2:SetTable,Ris t2.place.toList→t2.led=D.2.2.led→Ris (tailTx D.2.1 (layNew D.2.2 D.1 h v).1 t2 (layNew D.2.2 D.1 h v).2.2.1).2.2.place.toList∧(tailTx D.2.1 (layNew D.2.2 D.1 h v).1 t2 (layNew D.2.2 D.1 h v).2.2.1).2.2.led=D.2.2.led:=fun t2 a b=>by
  unfold tailTx
  split
  ·exact ⟨relayAll_ris _ _ _,(relayAll_led _ _ _).trans b⟩
  ·exact ⟨a,b⟩
 unfold addTx
 split
 ·exact key _ r1 l1
 ·exact key _ r1 l1
def a1q (l:List Str) (k:Str):List Str:=if k∈l then l else k :: l
section
variable {P:Program} {w:World} {A:Around} {E:Value→Shared→Prop} {s:Shared}
theorem b9e {a:Addr} {D:SD} {l:List Str} {k:Str} {u:Tok} {Q:Bool→Shared→Prop} (ho:s.heap.get? a=some (sObj "set" D)) (F:TxOk P w D l) (hk:k∈l) (hb:l.length < scanBound) (h:Q false s) :
  wpAny (model P w) A (setAddHashed a (.str k u) (hashStr w k)) Q E s:=by
 obtain ⟨es,ep,t⟩:=D
 have few:es.size < scanBound:=by rw [show es.size=l.length from F.sz];exact hb
 obtain ⟨e,me,se⟩:=(F.mem k).mp hk
 unfold setAddHashed setAddHashedIn
 refine wpAny_holding (wpAny_bind (wpAny_setState_of ho rfl F.fit ?_))
 dsimp only
 rw [byScan_of rfl few F.el]
 simp only [↓reduceIte]
 unfold setAddByScan
 refine wpAny_bind ?_
 refine wpAny_bind (wpAny_rule ?_)
 refine wpAny_bind (wpAny_setScan_of (knd:=strKind P w) (is_str k u) ho rfl F.fit F.el ?_)
 cases hf:List.findIdx? (fun e=>(strKind P w).is k e.2) es.toList with
 | none=>exact absurd se (by have:=List.findIdx?_eq_none_iff.mp hf e me;simpa using this)
 | some j =>
  dsimp only
  exact wpAny_pure (wpAny_pure h)
theorem b9l {a:Addr} {l:List Str} {k:Str} {u:Tok} {Q:Bool→Shared→Prop} (t:a9H P w s.heap a l) (few:l.length + 1 < scanBound)
  (h:∀ b h',a9H P w h' a (a1q l k)→(∀ b o,b≠a→s.heap.get? b=some o→h'.get? b=some o)→Q b { s with heap:=h',toks:=s.toks + 1 }):wpAny (model P w) A (setAdd a (.str k u)) Q E s:=by
 obtain ⟨D,at_a,F,r,led⟩:=t
 unfold setAdd
 refine wpAny_holding (wpAny_bind ((strKind P w).pyHash (k:=k) (is_str k u) ?_))
 unfold a1q at h
 by_cases hk:k∈l
 ·rw [if_pos hk] at h
  exact b9e (s:={ s with toks:=s.toks + 1 }) at_a F hk (by omega) (h _ _ ⟨D,at_a,F,r,led⟩ fun _ _ _ e=>e)
 ·rw [if_neg hk] at h
  obtain ⟨r2,l2⟩:=a8a (h:=hashStr w k) (v:=.str k u) r
  refine add_x (s:={ s with toks:=s.toks + 1 }) at_a F hk few (h _ _ ⟨_,get_upd _ at_a rfl,add_ok u F,r2,led.imp id fun q=>l2.trans q⟩ fun b o hb e=>Heap.get?_update_of_ne _ (Ne.symm hb) e)
theorem b4B {a I:Addr} {fp wr:List Addr} {n:Nat} {Pv:Nat→Value→Prop} {St:Nat→Heap→Prop} {R:Result→Shared→Prop} (W:Walks P w A.in1 I fp wr n Pv St) (off:a∉fp) {zs:List Str} (len:zs.length=n) (few:n + 1 < scanBound)
  (val:∀ i v,Pv i v→∃ z u,zs[i]?=some z∧v=.str z u):∀ (rest:List Str) (i:Nat) (l:List Str) (s:Shared),zs.drop i=rest→i≤n→l.length≤i→St i s.heap→a9H P w s.heap a l →
   (∀ h' tk,a9H P w h' a (rest.foldl a1q l)→(∀ b o,b∉a :: wr→s.heap.get? b=some o→h'.get? b=some o)→R (.ok (.ret .none)) { s with heap:=h',toks:=tk }) →
   codeAny (model P w) A (.builtin "set.update.loop" ⟨[.ref a,.ref I],[]⟩) R s:=by
 have off2:a∉wr:=fun h=>off (W.sub _ h)
 intro rest
 induction rest with
 | nil =>
  intro i l s hd hi hl st t h
  have e:i=n:=by
   have:=congrArg List.length hd
   rw [List.length_drop,List.length_nil] at this
   omega
  subst e
  refine codeAny_builtin PyProof.Rows.F.entry_set_update_loop ?_
  rw [Around.under_plainId PyProof.Rows.F.plain_set_update_loop _]
  show wpAny _ A.in1 (pyNext (.ref I) >>= _) _ _ s
  refine wpAny_bind (W.done s _ _ st fun h' tk k=>?_)
  exact wpAny_pure (h h' tk (t.keep fun o e=>k _ o off2 e) fun b o hb e=>k b o (fun z=>hb (zao _ z)) e)
 | cons z rest ih =>
  intro i l s hd hi hl st t h
  have at_i:zs[i]?=some z:=by
   have:=congrArg (fun q:List Str=>q[0]?) hd
   rw [List.getElem?_drop] at this
   exact this
  have lt:i < n:=by rw [← len];exact (List.getElem?_eq_some_iff.mp at_i).1
  have hd2:zs.drop (i + 1)=rest:=by
   have:=congrArg (List.drop 1) hd
   rw [List.drop_drop] at this
   exact this
  refine codeAny_builtin PyProof.Rows.F.entry_set_update_loop ?_
  rw [Around.under_plainId PyProof.Rows.F.plain_set_update_loop _]
  show wpAny _ A.in1 (pyNext (.ref I) >>= _) _ _ s
  refine wpAny_bind (W.item i s _ _ lt st fun v h1 tk hv st1 k1=>?_)
  obtain ⟨z',u,ez,rfl⟩:=val i v hv
  rw [at_i] at ez
  cases ez
  show wpAny _ A.in1 (holding [Value.str z u] (setAdd a (.str z u)) >>= _) _ _ _
  refine wpAny_bind (wpAny_holding ?_)
  refine b9l (s:={ s with heap:=h1,toks:=tk }) (t.keep fun o e=>k1 _ o off2 e) (by omega) fun b h2 t2 k2=>?_
  refine wpAny_pure ⟨plainId_quiet PyProof.Rows.F.plain_set_update_loop _,ih (i + 1) (a1q l z) _ hd2 lt (by unfold a1q;split;omega;show l.length + 1≤_;omega) (W.frame _ h1 h2 st1 fun b hb o e=>k2 b o (fun q=>off (q ▸ hb)) e) t2 fun h3 tk3 t3 k3=>?_⟩
  refine h h3 tk3 t3 fun b o hb e=>k3 b o hb ?_
  refine k2 b o (fun q=>hb (q ▸ zal)) ?_
  exact k1 b o (fun q=>hb (zao _ q)) e
theorem a4R:∀ {us:List Value} {zs:List Str},StrsAre us zs→∀ {i:Nat} {v:Value},us[i]?=some v→∃ z u,zs[i]?=some z∧v=.str z u
 | _,_,.nil,i,v,h=>by simp at h
 | _,_,.cons z t r,0,v,h=>⟨z,t,rfl,(Option.some.inj h).symm⟩
 | _,_,.cons z t r,i + 1,v,h=>a4R r (i:=i) h
theorem a65 {l:Addr} {us:List Value} {Fin:Heap→Prop} {Q:Value→Shared→Prop} (hh:A.handled=none) (at_l:s.heap.IsList l us.toArray)
  (fills:∀ (A':Around) (R:Result→Shared→Prop),A'.handled=none→(∀ h' tk,Fin h'→(∀ b o,s.heap.get? b=some o→h'.get? b=some o)→R (.ok (.ret .none)) { s with heap:=h',toks:=tk }) →
   codeAny (model P w) A' (.builtin "set.update.loop" ⟨[.ref s.heap.objs.size,.ref (s.heap.push { cls:=.type "set",dict:=none,data:=.set #[] 0 (.fresh 0 0 (!w.params.followText "set-order")) }).objs.size],[]⟩) R { s with heap:=(s.heap.push { cls:=.type "set",dict:=none,data:=.set #[] 0 (.fresh 0 0 (!w.params.followText "set-order")) }).push { cls:=.type "list_iterator",data:=.fields #[.ref l,.int 0 0] } })
  (h:∀ h' tk,Fin h'→(∀ b o,s.heap.get? b=some o→h'.get? b=some o)→Q (.ref s.heap.objs.size) { s with heap:=h',toks:=tk }) :
  wpAny (model P w) A (call (.type "set") [.ref l]) Q E s:=by
 obtain ⟨mro,tail,of_mro⟩:=F.called_set.mro
 have made:=F.called_set.made
 have sub:=F.called_set.sub
 have proper:=F.called_set.notType
 have can:=F.called_set.canCreate
 have told:=F.typeCall_set_1 (.ref l)
 let o0:Obj:={ cls:=.type "set",dict:=none,data:=.set #[] 0 (.fresh 0 0 (!w.params.followText "set-order")) }
 have init:∀ (A':Around) (R:Result→Shared→Prop),A'.handled=none→(∀ h' tk,Fin h'→(∀ b o,s.heap.get? b=some o→h'.get? b=some o)→R (.ok (.ret .none)) { s with heap:=h',toks:=tk }) →
   codeAny (model P w) A' (.call (.builtin "set.__init__") ⟨[.ref s.heap.objs.size,.ref l],[]⟩) R { s with heap:=s.heap.push o0 }:=fun A' R hA' k=>by
  have ty:Shared.TypeIs { s with heap:=s.heap.push o0 } (.ref s.heap.objs.size) "set" := ⟨_,Heap.get?_push_size _ rfl,rfl⟩
  obtain ⟨ol,hol,cls,n,dat⟩:=id at_l
  obtain ⟨c0,d0,p0,x0⟩:=ol
  cases (show c0=_ from cls)
  cases (show p0=_ from dat)
  have here:(s.heap.push o0).get? l=some _:=Heap.get?_push_of_some o0 hol
  have noSet:=F.sub_list_set
  have noFroz:=F.sub_list_frozenset
  have noDict:(Value.type "list" == Value.type "dict")=false:=by decide
  refine codeAny_call_builtin F.called_set.init.plain F.entry_set_init (check_set_init_1 ty ?_)
  unfold Builtin.«set.__init__» noKeywords Builtin.Frozenset.updateFrom
  generalize eI:pyIter=PI
  wp_walk
  subst eI
  refine wpAny_pyIter_list (at_l.push _) ?_
  refine wpAny_bind (wpAny_runValue (fills _ _ (by simp [hA']) fun h' tk t k2=>?_))
  exact wpAny_pure (wpAny_pure (k h' tk t k2))
 refine wpAny_call (codeAny_of_tree ?_)
 show wpAny _ _ (callAny (.type "set") _) _ _ _
 refine wpAny_pure ⟨Code.quiet_builtin _ (by decide +kernel),codeAny_builtin F.entry_type_call ?_⟩
 rw [Around.under_plain (weight_type_call_type "set" [.ref l] []) rfl]
 repeat (any_goals (first | assumption | wp_step))
 refine codeAny_mono (code_set_led1 (.ref l) (E:=E) (Q₁:=fun v s1=>v=.ref s.heap.objs.size∧s1={ s with heap:=s.heap.push o0 }) ⟨rfl,rfl⟩) fun r s1 hr=>?_
 match r,hr with
 | .error _,hr=>exact hr
 | .ok (.ret _),⟨e1,e2⟩ =>
  subst e1 e2
  have here:(s.heap.push o0).get? s.heap.objs.size=some o0:=Heap.get?_push_size _ rfl
  have ty:Shared.TypeIs { s with heap:=s.heap.push o0 } (.ref s.heap.objs.size) "set" := ⟨_,here,rfl⟩
  have look:=F.called_set.init.lookup
  have bound:=F.called_set.init.bind (.ref s.heap.objs.size)
  repeat (any_goals (first | assumption | wp_step))
  refine codeAny_mono (init _ (fun r s2=>r=.ok (.ret .none)∧∃ h' tk,s2={ s with heap:=h',toks:=tk }∧Fin h'∧∀ b o,s.heap.get? b=some o→h'.get? b=some o) (by simp [hh]) fun h' tk t k=>⟨rfl,h',tk,rfl,t,k⟩) fun r2 s2 hr2=>?_
  obtain ⟨rfl,h',tk,rfl,t,k⟩:=hr2
  repeat (any_goals (first | assumption | wp_step))
  exact h h' tk t k
 | .ok .next,hr=>exact hr.elim
 | .ok .brk,hr=>exact hr.elim
 | .ok .cont,hr=>exact hr.elim
theorem b03 {l:Addr} {us:List Value} {zs:List Str} {Q:Value→Shared→Prop} (hh:A.handled=none) (at_l:s.heap.IsList l us.toArray) (all:StrsAre us zs) (few:zs.length + 1 < scanBound)
  (h:∀ h' tk,a9H P w h' s.heap.objs.size (zs.foldl a1q [])→(∀ b o,s.heap.get? b=some o→h'.get? b=some o)→Q (.ref s.heap.objs.size) { s with heap:=h',toks:=tk }) :
  wpAny (model P w) A (call (.type "set") [.ref l]) Q E s:=by
 have len:us.length=zs.length:=all.length
 refine a65 hh at_l (fun A' R hA' k=>?_) h
 let o0:Obj:={ cls:=.type "set",dict:=none,data:=.set #[] 0 (.fresh 0 0 (!w.params.followText "set-order")) }
 obtain ⟨ol,hol,_⟩:=id at_l
 have lt:=Heap.lt_size hol
 have sz:(s.heap.push o0).objs.size=s.heap.objs.size + 1:=size_push' _ _
 have ne:l≠(s.heap.push o0).objs.size:=by rw [sz];exact Nat.ne_of_lt (Nat.lt_succ_of_lt lt)
 have off:s.heap.objs.size∉[(s.heap.push o0).objs.size,l]:=fun hm=>by
  rw [sz] at hm
  rcases zau.mp hm with q | q
  ·exact Nat.ne_of_lt (Nat.lt_succ_self _) q
  ·exact Nat.ne_of_gt lt (zaj.mp q)
 have here:((s.heap.push o0).push { cls:=.type "list_iterator",data:=.fields #[.ref l,.int 0 0] }).get? s.heap.objs.size=some o0:=Heap.get?_push_of_some _ (Heap.get?_push_size _ rfl)
 refine b4B (Walks.list (by exact hA') _ l ne us.toArray) off (zs:=zs) (by rw [List.size_toArray,len]) (by rw [List.size_toArray,len];exact few) (fun i v hv=>a4R all (by rw [← List.getElem?_toArray];exact hv)) zs 0 [] _ rfl (Nat.zero_le _) (Nat.zero_le _)
  ⟨⟨_,Heap.get?_push_size _ rfl,rfl,rfl⟩,(at_l.push _).push _⟩ ⟨(#[],0,.fresh 0 0 (!w.params.followText "set-order")),here,.nil rfl,List.Pairwise.nil,?_⟩ fun h' tk t k2=>k h' tk t fun b o e=>?_
 ·cases q:w.params.followText "set-order"
  ·exact .inr rfl
  ·exact .inl rfl
 ·have hb:=Heap.lt_size e
  refine k2 b o (fun hm=>?_) (Heap.get?_push_of_some _ (Heap.get?_push_of_some _ e))
  rw [sz] at hm
  rcases zau.mp hm with q | q
  ·exact Nat.ne_of_lt hb q
  ·exact Nat.ne_of_lt (Nat.lt_succ_of_lt hb) (zaj.mp q)
end
def uniq (zs:List Str):List Str:=zs.foldl a1q []
theorem a79 {l:List Str} {k:Str} (u:l.Nodup):(a1q l k).Nodup:=by
 unfold a1q
 split
 ·exact u
 ·rename_i h
  exact zbd.mpr ⟨h,u⟩
theorem a8w:∀ {zs l:List Str},l.Nodup→(zs.foldl a1q l).Nodup
 | [],_,u=>u
 | _ :: zs,_,u=>a8w (zs:=zs) (a79 u)
theorem b3c {zs:List Str}:(uniq zs).Nodup:=a8w List.nodup_nil
theorem a6P:∀ {zs l:List Str},(zs.foldl a1q l).length≤l.length + zs.length
 | [],_=>Nat.le_refl _
 | y :: zs,l=>by
  refine Nat.le_trans (a6P (zs:=zs)) ?_
  rw [zaz]
  unfold a1q
  split
  ·omega
  ·rw [zaz];omega
theorem a7q {zs:List Str}:(uniq zs).length≤zs.length:=by
 have:=a6P (zs:=zs) (l:=[])
 rw [List.length_nil,Nat.zero_add] at this
 exact this
theorem perm_of:∀ {l m:List Str},l.Nodup→(∀ z∈l,z∈m)→m.length≤l.length→m.Perm l
 | [],m,_,_,few=>by
  cases m with
  | nil=>exact .nil
  | cons _ _=>exact absurd few (by simp)
 | z :: l,m,u,sub,few=>by
  obtain ⟨nz,u⟩:=zbd.mp u
  have mz:=sub z zal
  refine (List.perm_cons_erase mz).trans (.cons z (perm_of u (fun y hy=>(List.mem_erase_of_ne fun e=>nz (by rw [← e];exact hy)).mpr (sub y (zao _ hy))) ?_))
  rw [List.length_erase_of_mem mz]
  rw [zaz] at few
  omega
section
variable {X:Cx} {pins:List (Addr × Obj)} {σ:L2.St} {H:Hp} {s:Shared} {a:Addr} {l:List Str}
theorem b0J {P:Program} {w:World} {es:List (Int × Value)} (el:ElemsOf (PySem.strKind P w) es):∃ zs,StrsAre (es.map (·.2)) zs:=by
 induction es with
 | nil=>exact ⟨[],.nil⟩
 | cons e es ih =>
  obtain ⟨zs,h⟩:=ih fun e he=>el e (zao _ he)
  obtain ⟨⟨k,is,_⟩,_⟩:=el e zal
  obtain ⟨t,et⟩:=Value.isStrOf_shape (x:=k) (v:=e.2) is
  refine ⟨k :: zs,?_⟩
  rw [zax,et]
  exact .cons k t h
theorem a7n:∀ {us:List Value} {zs:List Str},StrsAre us zs→∀ {z:Str},z∈zs↔∃ t,Value.str z t∈us
 | _,_,.nil,z=>⟨fun h=>absurd h zba,fun ⟨_,h⟩=>absurd h zba⟩
 | _,_,.cons y t r,z=>by
  rw [zau,a7n r]
  constructor
  ·rintro (rfl | ⟨u,h⟩)
   ·exact ⟨t,zal⟩
   ·exact ⟨u,zao _ h⟩
  ·rintro ⟨u,h⟩
   rcases zau.mp h with h | h
   ·injection h with h1 _
    exact .inl h1
   ·exact .inr ⟨u,h⟩
theorem b0F:∀ {us vs:List Value},us.Perm vs→∀ {zs:List Str},StrsAre vs zs→∃ ys,StrsAre us ys∧ys.Perm zs:=by
 intro us vs p zs h
 have all:∀ v∈us,∃ z t,v=.str z t:=fun v hv=>by
  obtain ⟨i,hi⟩:=List.mem_iff_getElem?.mp (p.mem_iff.mp hv)
  obtain ⟨z,t,_,e⟩:=a4R h hi
  exact ⟨z,t,e⟩
 let f:Value→Str:=fun v=>match v with
  | .str z _=>z
  | _=>⟨#[]⟩
 have back:∀ {us:List Value},(∀ v∈us,∃ z t,v=.str z t)→StrsAre us (us.map f):=fun {us}=>by
  induction us with
  | nil=>exact fun _=>.nil
  | cons v us ih =>
   intro h
   obtain ⟨z,t,rfl⟩:=h v zal
   exact .cons z t (ih fun v hv=>h v (zao _ hv))
 have of:∀ {us:List Value} {zs:List Str},StrsAre us zs→us.map f=zs:=fun {us zs} h=>by
  induction h with
  | nil=>rfl
  | cons z t _ ih=>rw [zax,ih]
 exact ⟨us.map f,back all,by rw [← of h];exact p.map f⟩
theorem c0H (calm:X.calm=true) (I:Inv X pins σ H s) (t:a9H X.prog X.w s.heap a l) (few:l.length < 64) (u:l.Nodup) {Q:VK} (q:∀ p,H p=none→Q (.ref p) (upd H p (.lst ((a0i l).map V.str)))) :
  wpAny (model X.prog X.w) X.A (call (.builtin "sorted") [.ref a]) (EP X pins σ Q) X.xe s:=by
 obtain ⟨⟨es,ep,tb⟩,at_a,F,r,led⟩:=t
 have sz:es.size=l.length:=F.sz
 have el:ElemsOf (PySem.strKind X.prog X.w) es.toList:=F.el
 have mem:∀ k:Str,k∈l↔∃ e∈es.toList,(PySem.strKind X.prog X.w).is k e.2=true:=F.mem
 obtain ⟨zs,hz⟩:=b0J el
 have zl:zs.length=es.toList.length:=by rw [← hz.length,zag]
 have pz:zs.Perm l:=perm_of u (fun k hk=>by
  obtain ⟨e,he,is⟩:=(mem k).mp hk
  obtain ⟨t,et⟩:=Value.isStrOf_shape (x:=k) (v:=e.2) is
  exact (a7n hz).mpr ⟨t,zan.mpr ⟨e,he,et⟩⟩) (by rw [zl,Array.length_toList,sz];exact Nat.le_refl _)
 refine Calls.call_function_entry PyProof.Rows.kind_sorted PyProof.Rows.plain_sorted PyProof.Rows.entry_sorted (PyProof.Rows.args_sorted1 _) ?_
 unfold Builtin.«sorted»
 refine wpAny_bind (m:=checkCount "sorted" 1 1 _) (wpAny_pure ?_)
 refine wpAny_bind (collect_set (A:=X.A.in1) (es:=es) (ep:=ep) (t:=tb) (I.ok.hd calm) ⟨_,at_a,rfl,rfl⟩ F.fit (by rw [sz];unfold scanBound;omega) r led fun s1 out k1 le1 g_1 o1 po=>?_)
 obtain ⟨ys,hy,py⟩:=b0F po hz
 have yl:out.length=l.length:=by rw [po.length_eq,zag,Array.length_toList,sz]
 have e1:s1={ s with heap:=s1.heap,gens:=s1.gens,drawn:=s1.drawn,toks:=s1.toks }:=by
  cases s1
  cases s
  cases o1
  rfl
 rw [e1]
 refine wpAny_bind (wpAny_newList ?_ (by rw [yl,zai];omega))
 have at_p:(s1.heap.push (seqObj "list" out.toArray 0)).get? s1.heap.objs.size=some (seqObj "list" out.toArray 0):=Heap.get?_push_size _ rfl
 show wpAny _ _ _ _ _ { s with heap:=s1.heap.push (seqObj "list" out.toArray 0),gens:=s1.gens,drawn:=s1.drawn,toks:=s1.toks }
 refine wpAny_bind (wpAny_holding (wpAny_call_entry PyProof.Rows.slot_list_sort ⟨_,at_p,rfl⟩ PyProof.Rows.entry_list_sort
  (list_sort_treeK strKind_oneLt (s:={ s with heap:=s1.heap.push (seqObj "list" out.toArray 0),gens:=s1.gens,drawn:=s1.drawn,toks:=s1.toks }) at_p hy.keysOf (fun v₁ v₂ rest e=>keyKind_strs (by rw [← e];exact hy)) (by rw [yl];exact few) fun st hp hs=>⟨_,rfl,?_⟩)
  (PyProof.Rows.args_list_sort _)))
 obtain ⟨qs,g1,g2,g3⟩:=sorted_out_str hy hp hs
 obtain ⟨e',at_q⟩:=PyProof.Rows.sortedHeap_at (vs:=out) (out:=(arrOf st).map (·.2)) at_p
 have eq:qs=a0i l:=a3K (g2.trans (py.trans pz)) g3
 subst eq
 have ql:((a0i l).map V.str).length≤sizeLine:=by rw [zag,show (a0i l).length=l.length from (List.mergeSort_perm l leS).length_eq,zai];omega
 have k3:∀ b o,s.heap.get? b=some o→(sortedHeap (s1.heap.push (seqObj "list" out.toArray 0)) s1.heap.objs.size out ((arrOf st).map (·.2))).get? b=some o:=fun b o e=>by
  have e:=k1 b o e
  have lt:=Heap.lt_size e
  rw [PyProof.Rows.sortedHeap_old (Nat.ne_of_lt lt) (by rw [size_push'];exact Nat.lt_succ_of_lt lt)]
  exact Heap.get?_push_of_some _ e
 have free:H s1.heap.objs.size=none:=I.hok.fresh le1
 have J:Inv X pins σ (upd H s1.heap.objs.size (.lst ((a0i l).map V.str))) { s with heap:=sortedHeap (s1.heap.push (seqObj "list" out.toArray 0)) s1.heap.objs.size out ((arrOf st).map (·.2)),gens:=s1.gens,drawn:=s1.drawn,toks:=s1.toks } :=
  I.call (ch:=[]) (Un.laid k3 le1 free) (I.hok.laid k3 le1 ⟨ql,((arrOf st).map (·.2)).toList,e',vals_of_strs g1,by rw [Array.toArray_toList];exact at_q⟩) (by rw [g_1];exact I.bare) (fun _ z=>nomatch z)
 exact wpAny_pure ⟨_,rfl,.ref s1.heap.objs.size,_,J,rfl,q _ free⟩
theorem b84 (I:Inv X pins σ H s) (t:a9H X.prog X.w s.heap a l) (few:l.length < 64) {Q:VK} (q:Q (.int (l.length:Nat)) H) :
  wpAny (model X.prog X.w) X.A (call (.builtin "len") [.ref a]) (EP X pins σ Q) X.xe s:=by
 obtain ⟨⟨es,ep,tb⟩,at_a,F,r,led⟩:=t
 have sz:es.size=l.length:=F.sz
 refine call_len_set (o:=sObj "set" (es,ep,tb)) at_a ⟨rfl,rfl,rfl⟩ rfl F.fit (by rw [sz];omega) ⟨.int (l.length:Nat),H,I.tok _,⟨_,by rw [sz]⟩,q⟩
def c38 (K:zbj) (srt:Bool) (ta:TE):TE:=fun σ H Q=>ta σ H fun x H1=>∃ p ks,x=.ref p∧SqL K H1 p (ks.map V.str)∧(ks.length < 64∨((uniq ks).length < 64∧ks.length < 1000)) ∧
 if srt=true then ∀ q,H1 q=none→Q (.ref q) (upd H1 q (.lst ((a0i (uniq ks)).map V.str))) else Q (.int ((uniq ks).length:Nat)) H1
def b5h (srt:Bool):Str:=if srt=true then "sorted" else "len"
end
section
variable {X:Cx}
theorem b5r {srt:Bool} {a:Expr} {ta:TE} {p p2 q pos:Pos} (calm:X.calm=true) (hg:Gl X (b5h srt)) (hm:X.mg (b5h srt)=none) (hg2:Gl X "set") (hm2:X.mg "set" = none) (ha:PE X a ta)
  (na:starEach [a] X.env=(false,eval a X.env) :: starEach [] X.env):PE X (.Call (.Name (b5h srt) p) [.Call (.Name "set" p2) [a] [] q] [] pos) (c38 X.K srt ta):=by
 refine ⟨fun pins s σ H Q I h=>?_⟩
 cases srt with
 | true =>
  refine Call_ (ld_blt I hg hm PyProof.Rows.boot_sorted ?_)
  refine PyProof.Rows.callWith_builtin1 (PyProof.Rows.args_cons ?_ rfl) rfl rfl
  refine Call_ (ld_blt I hg2 hm2 boot_set ?_)
  refine PyProof.Rows.callWith_type1 (PyProof.Rows.args_cons (thn (ha.run pins s σ H _ I h) fun v s1 ⟨x,H1,I1,r1,q1⟩=>PyProof.Rows.args_nil ?_) na) na rfl
  obtain ⟨l,ks,rfl,seq,few,q1⟩:=q1
  cases r1
  obtain ⟨its,rv,hl,_⟩:=I1.list seq
  refine b03 (us:=its) (I1.ok.hd calm) hl.isList rv.strs (by unfold scanBound;rcases few with few | few <;> omega) fun h' tk t k=>PyProof.Rows.args_nil ?_
  have I2:Inv X pins σ H1 { s1 with heap:=h',toks:=tk }:=I1.kept k
  have fu:(uniq ks).length < 64:=few.elim (fun few=>Nat.lt_of_le_of_lt a7q few) (·.1)
  exact c0H calm I2 t fu b3c q1
 | false =>
  refine Call_ (ld_blt I hg hm boot_len ?_)
  refine PyProof.Rows.callWith_builtin1 (PyProof.Rows.args_cons ?_ rfl) rfl rfl
  refine Call_ (ld_blt I hg2 hm2 boot_set ?_)
  refine PyProof.Rows.callWith_type1 (PyProof.Rows.args_cons (thn (ha.run pins s σ H _ I h) fun v s1 ⟨x,H1,I1,r1,q1⟩=>PyProof.Rows.args_nil ?_) na) na rfl
  obtain ⟨l,ks,rfl,seq,few,q1⟩:=q1
  cases r1
  obtain ⟨its,rv,hl,_⟩:=I1.list seq
  refine b03 (us:=its) (I1.ok.hd calm) hl.isList rv.strs (by unfold scanBound;rcases few with few | few <;> omega) fun h' tk t k=>PyProof.Rows.args_nil ?_
  have I2:Inv X pins σ H1 { s1 with heap:=h',toks:=tk }:=I1.kept k
  have fu:(uniq ks).length < 64:=few.elim (fun few=>Nat.lt_of_le_of_lt a7q few) (·.1)
  exact b84 I2 t fu q1
end
end Sv
namespace Sv
open PySem PySem.Spec PyProof.Rows L2 PySem.Froz
section
variable {P:Program} {w:World} {A:Around} {E:Value→Shared→Prop} {s:Shared}
theorem b9k {a:Addr} {S:Int→Bool} {n:Nat} {k:Int} {u:Tok} {Q:Bool→Shared→Prop} (R:SetR w s.heap a S n) (few:n + 1 < scanBound)
  (h:∀ b h',SetR w h' a (fun j=>S j || decide (j=k)) (if S k=true then n else n + 1)→(∀ b o,b≠a→s.heap.get? b=some o→h'.get? b=some o)→Q b { s with heap:=h',toks:=s.toks + 1 }):wpAny (model P w) A (setAdd a (.int k u)) Q E s:=by
 unfold setAdd
 refine wpAny_holding (wpAny_bind ((intKind P w).pyHash (intKind_is P w k u) ?_))
 exact setR_add_hashed (s:={ s with toks:=s.toks + 1 }) R few fun h' sb r=>h _ _ r fun b o hb e=>(sb.2 b hb).trans e
theorem b4A {a I:Addr} {fp wr:List Addr} {n:Nat} {Pv:Nat→Value→Prop} {St:Nat→Heap→Prop} {R:Result→Shared→Prop} (W:Walks P w A.in1 I fp wr n Pv St) (off:a∉fp) {zs:List Int} (len:zs.length=n) (few:n + 1 < scanBound)
  (val:∀ i v,Pv i v→∃ z u,zs[i]?=some z∧v=.int z u):∀ (rest:List Int) (i:Nat) (F:Int→Bool) (m:Nat) (s:Shared),zs.drop i=rest→i≤n→m≤i→St i s.heap→SetR w s.heap a F m →
   (∀ h' tk m',m'≤n→SetR w h' a (fun j=>F j || decide (j∈rest)) m'→(∀ b o,b∉a :: wr→s.heap.get? b=some o→h'.get? b=some o)→R (.ok (.ret .none)) { s with heap:=h',toks:=tk }) →
   codeAny (model P w) A (.builtin "set.update.loop" ⟨[.ref a,.ref I],[]⟩) R s:=by
 have off2:a∉wr:=fun h=>off (W.sub _ h)
 intro rest
 induction rest with
 | nil =>
  intro i F m s hd hi hm st t h
  have e:i=n:=by
   have:=congrArg List.length hd
   rw [List.length_drop,List.length_nil] at this
   omega
  subst e
  refine codeAny_builtin PyProof.Rows.F.entry_set_update_loop ?_
  rw [Around.under_plainId PyProof.Rows.F.plain_set_update_loop _]
  show wpAny _ A.in1 (pyNext (.ref I) >>= _) _ _ s
  refine wpAny_bind (W.done s _ _ st fun h' tk k=>?_)
  exact wpAny_pure (h h' tk m hm ((t.at fun o e=>k _ o off2 e).congr fun j=>by simp) fun b o hb e=>k b o (fun z=>hb (zao _ z)) e)
 | cons z rest ih =>
  intro i F m s hd hi hm st t h
  have at_i:zs[i]?=some z:=by
   have:=congrArg (fun q:List Int=>q[0]?) hd
   rw [List.getElem?_drop] at this
   exact this
  have lt:i < n:=by rw [← len];exact (List.getElem?_eq_some_iff.mp at_i).1
  have hd2:zs.drop (i + 1)=rest:=by
   have:=congrArg (List.drop 1) hd
   rw [List.drop_drop] at this
   exact this
  refine codeAny_builtin PyProof.Rows.F.entry_set_update_loop ?_
  rw [Around.under_plainId PyProof.Rows.F.plain_set_update_loop _]
  show wpAny _ A.in1 (pyNext (.ref I) >>= _) _ _ s
  refine wpAny_bind (W.item i s _ _ lt st fun v h1 tk hv st1 k1=>?_)
  obtain ⟨z',u,ez,rfl⟩:=val i v hv
  rw [at_i] at ez
  cases ez
  show wpAny _ A.in1 (holding [Value.int z u] (setAdd a (.int z u)) >>= _) _ _ _
  refine wpAny_bind (wpAny_holding ?_)
  refine b9k (s:={ s with heap:=h1,toks:=tk }) (t.at fun o e=>k1 _ o off2 e) (by omega) fun b h2 t2 k2=>?_
  refine wpAny_pure ⟨plainId_quiet PyProof.Rows.F.plain_set_update_loop _,ih (i + 1) _ _ _ hd2 lt (by split <;> omega) (W.frame _ h1 h2 st1 fun b hb o e=>k2 b o (fun q=>off (q ▸ hb)) e) t2 fun h3 tk3 m3 hm3 t3 k3=>?_⟩
  refine h h3 tk3 m3 hm3 (t3.congr fun j=>?_) fun b o hb e=>k3 b o hb ?_
  ·show (F j || decide (j∈z :: rest))=((F j || decide (j=z)) || decide (j∈rest))
   rw [Bool.or_assoc]
   congr 1
   rw [Bool.eq_iff_iff]
   simp
  ·refine k2 b o (fun q=>hb (q ▸ zal)) ?_
   exact k1 b o (fun q=>hb (zao _ q)) e
theorem ints_get:∀ {us:List Value} {zs:List Int},IntsAre us zs→∀ {i:Nat} {v:Value},us[i]?=some v→∃ z u,zs[i]?=some z∧v=.int z u
 | _,_,.nil,i,v,h=>by simp at h
 | _,_,.cons z t r,0,v,h=>⟨z,t,rfl,(Option.some.inj h).symm⟩
 | _,_,.cons z t r,i + 1,v,h=>ints_get r (i:=i) h
theorem b48 {l:Addr} {us:List Value} {zs:List Int} {Q:Value→Shared→Prop} (hh:A.handled=none) (at_l:s.heap.IsList l us.toArray) (all:IntsAre us zs) (few:zs.length + 1 < scanBound)
  (h:∀ h' tk,(∃ m,m≤zs.length∧SetR w h' s.heap.objs.size (fun j=>decide (j∈zs)) m)→(∀ b o,s.heap.get? b=some o→h'.get? b=some o)→Q (.ref s.heap.objs.size) { s with heap:=h',toks:=tk }) :
  wpAny (model P w) A (call (.type "set") [.ref l]) Q E s:=by
 have len:us.length=zs.length:=all.length
 refine a65 hh at_l (fun A' R hA' k=>?_) h
 let o0:Obj:={ cls:=.type "set",dict:=none,data:=.set #[] 0 (.fresh 0 0 (!w.params.followText "set-order")) }
 obtain ⟨ol,hol,_⟩:=id at_l
 have lt:=Heap.lt_size hol
 have sz:(s.heap.push o0).objs.size=s.heap.objs.size + 1:=size_push' _ _
 have ne:l≠(s.heap.push o0).objs.size:=by rw [sz];exact Nat.ne_of_lt (Nat.lt_succ_of_lt lt)
 have off:s.heap.objs.size∉[(s.heap.push o0).objs.size,l]:=fun hm=>by
  rw [sz] at hm
  rcases zau.mp hm with q | q
  ·exact Nat.ne_of_lt (Nat.lt_succ_self _) q
  ·exact Nat.ne_of_gt lt (zaj.mp q)
 refine b4A (Walks.list (by exact hA') _ l ne us.toArray) off (zs:=zs) (by rw [List.size_toArray,len]) (by rw [List.size_toArray,len];exact few) (fun i v hv=>ints_get all (by rw [← List.getElem?_toArray];exact hv)) zs 0 (fun _=>false) 0 _ rfl (Nat.zero_le _) (Nat.zero_le _)
  ⟨⟨_,Heap.get?_push_size _ rfl,rfl,rfl⟩,(at_l.push _).push _⟩ ((setR_fresh w).at fun o e=>Heap.get?_push_of_some _ e) fun h' tk m hm t k2=>k h' tk ⟨m,by rw [List.size_toArray,len] at hm;exact hm,t.congr fun j=>by simp⟩ fun b o e=>?_
 have hb:=Heap.lt_size e
 refine k2 b o (fun hm=>?_) (Heap.get?_push_of_some _ (Heap.get?_push_of_some _ e))
 rw [sz] at hm
 rcases zau.mp hm with q | q
 ·exact Nat.ne_of_lt hb q
 ·exact Nat.ne_of_lt (Nat.lt_succ_of_lt hb) (zaj.mp q)
end
theorem a5i {g:Gd} {S:SS} {H:Hp}:∀ (zs:List Int),a0e g S H (zs.map D.int) (zs.map V.int)
 | []=>by simp only [List.map_nil,a0e]
 | z :: zs=>by
  simp only [zax,a0e]
  exact ⟨_,_,rfl,by simp only [Rep],a5i zs⟩
section
variable {X:Cx} {pins:List (Addr × Obj)} {σ:L2.St} {H:Hp} {s:Shared} {a:Addr}
theorem c0G {S:Int→Bool} {n:Nat} (calm:X.calm=true) (I:Inv X pins σ H s) (R:SetR X.w s.heap a S n) (h64:n < 64) {Q:VK} (q:∀ (ns:List Int) p,ns.Pairwise (· < ·)→(∀ k:Int,k∈ns↔S k=true)→H p=none→Q (.ref p) (upd H p (.lst (ns.map V.int)))) :
  wpAny (model X.prog X.w) X.A (call (.builtin "sorted") [.ref a]) (EP X pins σ Q) X.xe s:=by
 refine sorted_set R (I.ok.hd calm) h64 fun s' p out c ns k g o hp hg hi hs hm hl=>?_
 have hlen:(ns.map V.int).length≤sizeLine:=by rw [zag,hl,zai];omega
 have hn:H p=none:=I.hok.fresh hp
 have J:Inv X pins σ (upd H p (.lst (ns.map V.int))) { s with heap:=s'.heap,gens:=s'.gens,drawn:=s'.drawn,toks:=s'.toks } :=
  I.call (ch:=[]) (Un.laid k hp hn) (I.hok.laid k hp ⟨hlen,out.toList,c,vals_of_ints hi,hg⟩) (by rw [g];exact I.bare) (fun _ z=>nomatch z)
 have e:s'={ s with heap:=s'.heap,gens:=s'.gens,drawn:=s'.drawn,toks:=s'.toks }:=by
  cases s'
  cases s
  cases o
  rfl
 rw [e]
 exact ⟨.ref p,_,J,rfl,q ns p hs hm hn⟩
def c37 (K:zbj) (ta:TE):TE:=fun σ H Q=>ta σ H fun x H1=>∃ p,∃ ks:List Int,x=.ref p∧SqL K H1 p (ks.map V.int)∧ks.length < 64 ∧
 ∀ (ns:List Int) q,ns.Pairwise (· < ·)→(∀ k,k∈ns↔k∈ks)→H1 q=none→Q (.ref q) (upd H1 q (.lst (ns.map V.int)))
end
section
variable {X:Cx}
theorem b5q {a:Expr} {ta:TE} {p p2 q pos:Pos} (calm:X.calm=true) (hg:Gl X "sorted") (hm:X.mg "sorted" = none) (hg2:Gl X "set") (hm2:X.mg "set" = none) (ha:PE X a ta)
  (na:starEach [a] X.env=(false,eval a X.env) :: starEach [] X.env):PE X (.Call (.Name "sorted" p) [.Call (.Name "set" p2) [a] [] q] [] pos) (c37 X.K ta):=by
 refine ⟨fun pins s σ H Q I h=>?_⟩
 refine Call_ (ld_blt I hg hm PyProof.Rows.boot_sorted ?_)
 refine PyProof.Rows.callWith_builtin1 (PyProof.Rows.args_cons ?_ rfl) rfl rfl
 refine Call_ (ld_blt I hg2 hm2 boot_set ?_)
 refine PyProof.Rows.callWith_type1 (PyProof.Rows.args_cons (thn (ha.run pins s σ H _ I h) fun v s1 ⟨x,H1,I1,r1,q1⟩=>PyProof.Rows.args_nil ?_) na) na rfl
 obtain ⟨l,ks,rfl,seq,few,q1⟩:=q1
 cases r1
 obtain ⟨its,rv,hl,_⟩:=I1.list seq
 refine b48 (us:=its) (I1.ok.hd calm) hl.isList rv.ints (by unfold scanBound;omega) fun h' tk ⟨m,hm,t⟩ k=>PyProof.Rows.args_nil ?_
 have I2:Inv X pins σ H1 { s1 with heap:=h',toks:=tk }:=I1.kept k
 exact c0G calm I2 t (by omega) fun ns q hs hm free=>q1 ns q hs (fun k=>(hm k).trans decide_eq_true_iff) free
end
end Sv
namespace Sv
open PySem PySem.Spec PyProof.Rows L2
def ev2 {α:Type} (k:Nat) (xs:List α):List α:=((List.range ((xs.length + 1 - k) / 2)).map fun i=>k + 2 * i).filterMap (xs[·]?)
theorem b1G {α β:Type} (f:α→β) (k:Nat) (xs:List α):ev2 k (xs.map f)=(ev2 k xs).map f:=by
 unfold ev2
 rw [zag,List.map_filterMap]
 exact congrArg (fun f=>List.filterMap f _) (funext fun i=>zbh)
theorem b1F {α:Type} (k:Nat) (xs:List α):(ev2 k xs).length≤xs.length:=by
 unfold ev2
 refine Nat.le_trans (List.length_filterMap_le _ _) ?_
 rw [zag,List.length_range]
 omega
theorem b0s (its:Array Value):slicePick its none none (some 2)=(ev2 0 its.toList).toArray:=by
 unfold slicePick ev2
 have b:sliceBounds none none (some 2) its.size=(0,(its.size:Int),2):=rfl
 rw [b]
 have r:sliceRange 0 (its.size:Int) 2=(List.range ((its.toList.length + 1 - 0) / 2)).map fun i=>0 + 2 * i:=by
  unfold sliceRange
  rw [Array.length_toList]
  have e:(if (2:Int) > 0 then (if (0:Int) < (its.size:Int) then ((its.size:Int) - 0 + 2 - 1) / 2 else 0) else (if (0:Int) > (its.size:Int) then (0 - (its.size:Int) - 2 - 1) / (-2) else 0)).toNat=(its.size + 1 - 0) / 2:=by
   rw [if_pos (by decide)]
   split <;> omega
  dsimp only
  rw [e]
  exact List.map_congr_left fun i _=>by omega
 rw [r]
 exact congrArg List.toArray (congrArg (fun f=>List.filterMap f _) (funext fun i=>Array.getElem?_toList.symm))
theorem a9c (its:Array Value):slicePick its (some 1) none (some 2)=(ev2 1 its.toList).toArray:=by
 unfold slicePick ev2
 have b:sliceBounds (some 1) none (some 2) its.size=(max 0 (min 1 (its.size:Int)),(its.size:Int),2):=rfl
 rw [b]
 have r:sliceRange (max 0 (min 1 (its.size:Int))) (its.size:Int) 2=(List.range ((its.toList.length + 1 - 1) / 2)).map fun i=>1 + 2 * i:=by
  rw [Array.length_toList]
  by_cases h0:its.size=0
  ·rw [h0];rfl
  ·have e1:max 0 (min 1 (its.size:Int))=1:=by omega
   rw [e1]
   unfold sliceRange
   have e:(if (2:Int) > 0 then (if (1:Int) < (its.size:Int) then ((its.size:Int) - 1 + 2 - 1) / 2 else 0) else (if (1:Int) > (its.size:Int) then (1 - (its.size:Int) - 2 - 1) / (-2) else 0)).toNat=(its.size + 1 - 1) / 2:=by
    rw [if_pos (by decide)]
    split <;> omega
   dsimp only
   rw [e]
   exact List.map_congr_left fun i _=>by omega
 rw [r]
 exact congrArg List.toArray (congrArg (fun f=>List.filterMap f _) (funext fun i=>Array.getElem?_toList.symm))
theorem a6y:∀ {xs:List V} {us:List Value},Vals xs us→∀ i:Nat,(xs[i]?=none∧us[i]?=none)∨∃ x u,xs[i]?=some x∧us[i]?=some u∧RelV x u
 | _,_,.nil,i=>.inl ⟨rfl,rfl⟩
 | _,_,.cons r rs,0=>.inr ⟨_,_,rfl,rfl,r⟩
 | _,_,.cons r rs,i + 1=>a6y rs i
theorem a3Q {xs:List V} {us:List Value} (r:Vals xs us):∀ is:List Nat,Vals (is.filterMap (xs[·]?)) (is.filterMap (us[·]?))
 | []=>.nil
 | i :: is=>by
  rcases a6y r i with ⟨e1,e2⟩ | ⟨x,u,e1,e2,q⟩
  ·rw [List.filterMap_cons_none e1,List.filterMap_cons_none e2];exact a3Q r is
  ·rw [List.filterMap_cons_some e1,List.filterMap_cons_some e2];exact .cons q (a3Q r is)
theorem b0P {xs:List V} {us:List Value} (r:Vals xs us) (k:Nat):Vals (ev2 k xs) (ev2 k us):=by
 unfold ev2
 rw [r.length]
 exact a3Q r _
section
variable {X:Cx} {e:Expr} {te:TE}
def loE (k:Nat):Option Expr→Bool
 | none=>k == 0
 | some (.Constant (.int 1) _ _)=>k == 1
 | _=>false
theorem b5o {k kk:Nat} {lo:Option Expr} {p2 p3 pos:Pos} (he:PE X e te) (hlo:loE k lo=true):PE X (.Subscript e (.Slice lo none (some (.Constant (.int 2) kk p2)) p3) pos) (fun σ H Q=>te σ H fun x H1=>∃ a xs,x=.ref a∧SqL X.K H1 a xs∧∀ p,H1 p=none→Q (.ref p) (upd H1 p (.lst (ev2 k xs)))):=by
 obtain ⟨o,to,hp,hto,pick⟩:∃ (o:Option Int) (to:TO),PO X lo to∧(∀ σ H Q,Q o H→to σ H Q)∧∀ its:Array Value,slicePick its o none (some 2)=(ev2 k its.toList).toArray:=by
  unfold loE at hlo
  split at hlo
  ·rw [beq_iff_eq] at hlo;subst hlo
   exact ⟨none,_,po_none,fun _ _ _ q=>q,b0s⟩
  ·rw [beq_iff_eq] at hlo;subst hlo
   exact ⟨some 1,_,po_some pe_int,fun _ _ _ q=>⟨1,rfl,q⟩,a9c⟩
  ·cases hlo
 constructor
 intro pins s σ H Q inv asked
 apply Subscript_
 refine thn (he.run pins s σ H _ inv asked) ?_
 rintro v s1 ⟨x,H1,i1,r1,a,xs,rfl,at_a,q⟩
 cases r1
 apply wpAny_Slice
 refine thn (hp.run pins s1 σ H1 (fun z H2=>z=o∧H2=H1) i1 (hto _ _ _ ⟨rfl,rfl⟩)) ?_
 rintro vl s2 ⟨z,H2,i2,part,rfl,rfl⟩
 refine thn (po_none.run pins s2 σ H2 (fun z H3=>z=none∧H3=H2) i2 ⟨rfl,rfl⟩) ?_
 rintro vu s3 ⟨z2,H3,i3,part2,rfl,rfl⟩
 refine thn ((po_some pe_int).run pins s3 σ H3 (fun z H4=>z=some 2∧H4=H3) i3 ⟨2,rfl,rfl,rfl⟩) ?_
 rintro vs s4 ⟨z3,H4,i4,part3,rfl,rfl⟩
 have laid:=i4.kept (t':=s4.toks) (h':=s4.heap.push { cls:=.type "slice",data:=.fields #[vl,vu,vs] }) fun b ob there=>Heap.get?_push_of_some _ there
 obtain ⟨its,rel,at_its,fits⟩:=laid.list at_a
 have same:its.length=xs.length:=rel.length.symm
 refine tail_any (ops:=[.ref a,.ref s4.heap.objs.size]) at_its.isList.typeIs (PySem.slot_list_getitem.lookup) ?_ (by with_unfolding_all rfl)
 refine wpAny_getItem_list_slice at_its.isList (Heap.IsSliceOf.new _ vl vu vs) part part2 part3 (by decide) ?_ (by rw [List.size_toArray,same];exact fits)
 rw [pick]
 refine ⟨.ref _,_,laid.laid (t':=s4.toks) (o:=.lst (ev2 k xs)) (fun b ob there=>Heap.get?_push_of_some _ there) (Nat.le_refl _) ?_,rfl,q _ (laid.hok.fresh (Nat.le_refl _))⟩
 exact ⟨Nat.le_trans (b1F k xs) fits,_,0,b0P rel k,Heap.get?_push_size _ rfl⟩
end
section
variable {X:Cx} {g:Gd} {S:SS} {H:Hp}
theorem b0z {ds:List D} {vs:List V} (h:a0e g S H ds vs) (k:Nat):a0e g S H (ev2 k ds) (ev2 k vs):=a3y (a3D (fun l=>ev2 k l) (fun h l=>b1G h k l) (a2S h))
def a9w (x:D) (xs:List D) (S:SS) (K:DK):Prop:=match x,xs with
 | .str z,[.str b]=>(b.length == 0)=false∧z.length + 2≤sizeLine∧K (.lst ((Txt.split z b).map D.str)) S
 | _,_=>False
theorem a4h:∀ (zs:List Str),a0e g S H (zs.map D.str) (zs.map V.str)
 | []=>by simp only [List.map_nil,a0e]
 | z :: zs=>by
  simp only [zax,a0e]
  exact ⟨_,_,rfl,by simp only [Rep],a4h zs⟩
theorem b0E:MtR X "str.split" (rDm g a9w):=by
 rintro pins s σ H v vs u us Q inv rv given ⟨x,xs,S,K,cells,rep,reps,told,res⟩
 unfold a9w at told
 split at told
 ·rename_i z b
  obtain ⟨w,rfl,rep2⟩:=one_of reps
  cases a0u rep
  cases a0u rep2
  obtain ⟨h1,h2,k⟩:=told
  exact mt_split _ _ _ _ _ _ _ _ _ inv rv given ⟨z,b,rfl,rfl,h1,h2,fun p free=>res.lst k cells (a4h _) free⟩
 ·exact told.elim
def b2h (xs:List D) (S:SS) (K:DK):Prop:=match xs with
 | [d]=>∃ x rest,vw S d=.lst (x :: rest)∧D.okd 60 (.lst (x :: rest))=true∧PySem.W.AlikeAll (D.pys (x :: rest))∧∀ y,y∈x :: rest→y.py=PySem.W.minD x.py (D.pys rest)→K y S
 | [x,y]=>D.okd 60 (.lst [x,y])=true∧PySem.W.AlikeAll (D.pys [x,y])∧∀ z,z∈[x,y]→z.py=PySem.W.minD x.py [y.py]→K z S
 | _=>False
section
open PySem.W
variable {prog:Program} {w:World} {A:Around} {E:Value→Shared→Prop} {s:Shared}
theorem a4t {a b:Value} {Q:Value→Shared→Prop}
  (h:wpAny (model prog w) A.in1 (pyIter (.ref s.heap.objs.size)) (fun it s₂=>∃ I fp wr G n P St H bt,it=.ref I∧WalksS prog w A.in1 I fp wr G n P St∧St 0 s₂∧(∀ b∈fp,b < s₂.heap.objs.size)∧0 < n ∧
   (∀ b o,H.get? b=some o→b∉wr)∧(∀ b o,H.get? b=some o→s₂.heap.get? b=some o)∧CmpIn prog w A.in1 .Lt H P bt∧∀ v s',P (argBest bt (n - 1)) v→Moved wr G s₂ s'→Q v s') E { s with heap:=s.heap.push { cls:=.type "tuple",data:=.seq #[a,b] } }) :
  wpAny (model prog w) A (call (.builtin "min") [a,b]) Q E s:=by
 have hname:(toString "min" ++ toString ".loop" : String) = "min.loop" := by decide
 refine call_function_tree F.kind_min F.plain_min F.entry_min (F.args_min2 _ _) ?_
 show wpAny _ A.in1 (Builtin.Builtins.bindParams "min" ["key", "default"] 0 ⟨[],[]⟩ >>= _) _ _ s
 refine wpAny_bind (wpAny_of_eq (show Builtin.Builtins.bindParams "min" ["key", "default"] 0 ⟨[],[]⟩=pure [none,none] from rfl) ?_)
 show wpAny _ A.in1 (newTuple [a,b] >>= _) _ _ s
 refine wpAny_bind (wpAny_newObj_type ?_)
 refine wpAny_bind (wpAny_mono h (fun it s₂ h₂=>?_) fun _ _ e=>e)
 obtain ⟨I,fp,wr,G,n,P,St,H,bt,rfl,W,hst,hfp,hn,hw,hkeep,hcmp,hQ⟩:=h₂
 refine wpAny_bind (wpAny_newObj_type ?_)
 have hSf:s₂.heap.objs.size∉fp:=fun hm=>Nat.lt_irrefl _ (hfp _ hm)
 rw [hname]
 refine wpAny_pure ⟨plainId_quiet F.plain_min_loop _,codeAny_min_loop_firstH W H hw bt hcmp s₂.heap.objs.size hSf (fresh_in hkeep) _ hn (fun b o e=>Heap.get?_push_of_some _ (hkeep b o e)) (W.frame 0 s₂ _ s₂.toks hst (Nat.le_refl _) fun b _ o e=>Heap.get?_push_of_some _ e) (Heap.get?_push_size _ rfl) fun v s' hP hm=>?_⟩
 exact hQ v s' hP (Moved.drop_new (tk:=s₂.toks) hm (Nat.le_refl _))
theorem a3E {h h':Heap} (k:∀ b o,h.get? b=some o→h'.get? b=some o):∀ {vs:List Value} {xs:List PyData} {as:List Addr},ReadsAll h vs xs as→ReadsAll h' vs xs as
 | _,_,_,.nil=>.nil
 | _,_,_,.cons r rs=>.cons (reads_keeps k r) (a3E k rs)
theorem a5u {a b:Value} {x y:PyData} {as:List Addr} {Q:Value→Shared→Prop} (hh:A.handled=none) (hr:ReadsAll s.heap [a,b] [x,y] as) (ha:AlikeAll [x,y]) (hu:A.units + 1 + PyData.depthAll [x,y] < cLine)
  (h:∀ (i:Nat) v h' tk bs,[a,b][i]?=some v→Reads h' v (PySem.W.minD x [y]) bs→(∀ b o,s.heap.get? b=some o→h'.get? b=some o)→Q v { s with heap:=h',toks:=tk }) :
  wpAny (model prog w) A (call (.builtin "min") [a,b]) Q E s:=by
 have hT:(s.heap.push { cls:=.type "tuple",data:=.seq #[a,b] }).IsTuple s.heap.objs.size #[a,b]:=⟨_,Heap.get?_push_size _ rfl,rfl,0,rfl⟩
 have hr2:ReadsAll (s.heap.push { cls:=.type "tuple",data:=.seq #[a,b] }) (#[a,b]:Array Value).toList [x,y] as:=a3E (fun c o e=>Heap.get?_push_of_some _ e) hr
 refine a4t (iter_tupleW (A:=A.in1) (s:={ s with heap:=s.heap.push { cls:=.type "tuple",data:=.seq #[a,b] } }) hh hT fun s₂ e W st hfp hw hk=>?_)
 refine ⟨_,_,_,_,_,_,_,s.heap.push { cls:=.type "tuple",data:=.seq #[a,b] },_,rfl,W,st,hfp,Nat.zero_lt_succ 1,hw,hk,cmpIn_lt (A:=A.in1) (s:={ s with heap:=s.heap.push { cls:=.type "tuple",data:=.seq #[a,b] } }) hr2 ha (by show A.units + 1 + _ < _;exact hu),fun v s' hP m=>?_⟩
 obtain ⟨h',tk,rfl,hk'⟩:=moved_old e rfl m
 obtain ⟨bs,r,_,_,_⟩:=readsAll_atA hr2 _ v hP
 have e2:=(argBest_fold dataLt PyData.none x [y] 1 (Nat.le_refl _)).2
 refine h _ v h' tk bs (by have:=hP;rw [← Array.getElem?_toList] at this;exact this) (reads_keeps hk' (by unfold PySem.W.minD;have e3:[y].take 1=[y]:=rfl;rw [e3] at e2;rw [← e2];exact r)) fun c o e=>hk' c o (Heap.get?_push_of_some _ e)
end
theorem a3n {ds:List D} (h:D.okd 60 (.lst ds)=true):PyData.depthAll (D.pys ds)≤59:=by
 have:=(a3z (.lst ds) 60 h).2
 simp only [D.py,PyData.depth] at this
 omega
theorem b08:∀ {ds:List D} {i:Nat},(D.pys ds)[i]?=(ds[i]?).map D.py
 | [],_=>by simp [D.pys]
 | d :: ds,0=>by simp [D.pys]
 | d :: ds,i + 1=>by simp [D.pys,b08 (ds:=ds) (i:=i)]
theorem a8l {ds:List D} {vs:List V} (ok:D.okd 60 (.lst ds)=true) (all:a0e g S H ds vs):DpAll g.K H vs (D.pys ds):=by
 simp only [D.okd,zak] at ok
 exact a3o 59 ok.2 all
theorem a8M {ds:List D} (ok:D.okd 60 (.lst ds)=true) {d:D} (h:d∈ds):d.py.canLay0=true:=by
 simp only [D.okd,zak] at ok
 obtain ⟨_,ok⟩:=ok
 have all:∀ (es:List D),D.okds 59 es=true→∀ e∈es,D.okd 59 e=true:=by
  intro es
  induction es with
  | nil=>exact fun _ _ h=>nomatch h
  | cons x es ih =>
   intro h e he
   simp only [D.okds,zak] at h
   rcases zau.mp he with rfl | he
   ·exact h.1
   ·exact ih h.2 e he
 exact (a3z d 59 (all ds ok d h)).1
theorem b2j (calm:X.calm=true) (hK:g.K=X.K) (room:X.A.units + 65 < cLine):CallR X (.builtin "min") (rDc g b2h):=by
 rintro pins s σ H vs us Q inv given ⟨xs,S,K,cells,reps,told,res⟩
 unfold b2h at told
 split at told
 ·rename_i d
  obtain ⟨v,rfl,rep⟩:=one_of reps
  obtain ⟨x,rest,seen,okd,al,k⟩:=told
  obtain ⟨a,ws,rfl,seq,all⟩:=a0k cells rep seen
  have dp:=a8l okd all
  rw [hK] at seq dp
  obtain ⟨its,rel,at_its,fits⟩:=inv.list seq
  obtain ⟨as,reads⟩:=Dp.readsAll inv _ ws its dp rel
  have deep:=a3n okd
  rw [Vals.ref1 given]
  refine PySem.W.min_list_data (inv.ok.hd calm) at_its.isList reads al (by show _ + 1 + PyData.depthAll (D.pys (x :: rest)) < _;omega) fun i u h' tk bs at_u least keep=>?_
  have at_u:its[i]?=some u:=by rw [← at_u];simp
  obtain ⟨w,u',e1,e2,rw'⟩:=(a6y rel i).resolve_left fun h=>by rw [h.2] at at_u;cases at_u
  rw [at_u] at e2
  cases e2
  have hlt:i < (x :: rest).length:=by rw [all.length];exact (List.getElem?_eq_some_iff.mp e1).1
  have e3:(x :: rest)[i]?=some (x :: rest)[i]:=zbi hlt
  obtain ⟨w2,e4,one⟩:=all.get e3
  rw [e1] at e4
  cases e4
  have mem:=List.getElem_mem hlt
  obtain ⟨bs2,r2,_⟩:=PySem.W.readsAll_at reads i u at_u
  have e5:(D.pys (x :: rest)).getD i .none=((x :: rest)[i]).py:=by rw [List.getD_eq_getElem?_getD,b08,e3];rfl
  rw [e5] at r2
  have same:=PySem.SeqAt.Reads.unique _ _ _ _ _ (a8M okd mem) (PyProof.Rows.Reads.keeps keep r2) least
  exact ⟨w,H,inv.kept (t':=tk) keep,rw',res.val (k _ mem same) cells one⟩
 ·rename_i x y
  obtain ⟨okd,al,k⟩:=told
  have dp:=a8l okd reps
  rw [hK] at dp
  obtain ⟨v1,v2,rfl,p3,p4⟩:=a0X reps
  obtain ⟨as,reads⟩:=Dp.readsAll inv _ _ us dp given
  obtain ⟨u1,u2,rfl,r1,r2⟩:=vals2 given
  have deep:=a3n okd
  refine a5u (inv.ok.hd calm) (x:=x.py) (y:=y.py) (as:=as) (by simpa only [D.pys] using reads) (by simpa only [D.pys] using al) (by simp only [D.pys] at deep;omega) fun i u h' tk bs at_u least keep=>?_
  have reads:ReadsAll s.heap [u1,u2] [x.py,y.py] as:=by simpa only [D.pys] using reads
  obtain ⟨bs2,rd,_⟩:=PySem.W.readsAll_at reads i u at_u
  match i,at_u with
  | 0,at_u =>
   cases at_u
   have same:=PySem.SeqAt.Reads.unique _ _ _ _ _ (a8M okd (zal)) (PyProof.Rows.Reads.keeps keep rd) least
   exact ⟨v1,H,inv.kept (t':=tk) keep,r1,res.val (k x zal same) cells p3⟩
  | 1,at_u =>
   cases at_u
   have same:=PySem.SeqAt.Reads.unique _ _ _ _ _ (a8M okd (zao _ zal)) (PyProof.Rows.Reads.keeps keep rd) least
   exact ⟨v2,H,inv.kept (t':=tk) keep,r2,res.val (k y (zao _ zal) same) cells p4⟩
  | n + 2,at_u=>simp at at_u
 ·exact told.elim
def a4O (cell:Bool) (xs:List D) (S:SS) (K:DK):Prop:=match xs with
 | [d]=>∃ ds,vw S d=.lst ds∧D.okd 60 (.lst ds)=true∧PySem.W.AllAlike (ds.map D.py)∧PySem.W.Sortable (ds.map D.py)∧outL cell (ds.mergeSort (PySem.W.dataLe false D.py)) S K
 | _=>False
theorem a3q:∀ {us:List Value} {ds:List D},PySem.W.EachIs (fun u d=>∃ v,RelV v u∧Rep g S H d v) us ds→∃ vs,Vals vs us∧a0e g S H ds vs
 | _,_,.nil=>⟨[],.nil,by simp only [a0e]⟩
 | _,_,.cons ⟨v,r,q⟩ more=>by
  obtain ⟨vs,a,b⟩:=a3q more
  exact ⟨v :: vs,.cons r a,by simp only [a0e];exact ⟨_,_,rfl,q,b⟩⟩
theorem a3P:∀ {us:List Value} {ds:List D} {vs:List V},Vals vs us→a0e g S H ds vs→PySem.W.EachIs (fun u d=>∃ v,RelV v u∧Rep g S H d v) us ds
 | _,[],_,r,all=>by
  simp only [a0e] at all
  subst all
  cases r
  exact .nil
 | _,d :: ds,_,r,all=>by
  simp only [a0e] at all
  obtain ⟨v,q,rfl,one,more⟩:=all
  cases r with
  | cons r1 r2=>exact .cons ⟨v,r1,one⟩ (a3P r2 more)
theorem a4f {h:Heap}:∀ {us:List Value} {ds:List D} {as:List Addr},ReadsAll h us (D.pys ds) as→PySem.W.EachIs (fun u (d:D)=>∃ as,Reads h u d.py as) us ds
 | _,[],_,r=>by
  simp only [D.pys] at r
  cases r
  exact .nil
 | _,d :: ds,_,r=>by
  simp only [D.pys] at r
  cases r with
  | cons r1 r2=>exact .cons ⟨_,r1⟩ (a4f r2)
theorem a7M (calm:X.calm=true) (hK:g.K=X.K) (room:X.A.units + 65 < cLine) (cell:Bool):CallR X (.builtin "sorted") (rDc g (a4O cell)):=by
 rintro pins s σ H vs us Q inv given ⟨xs,S,K,cells,reps,told,res⟩
 unfold a4O at told
 split at told
 ·rename_i d
  obtain ⟨v,rfl,rep⟩:=one_of reps
  obtain ⟨ds,seen,okd,al,so,k⟩:=told
  obtain ⟨a,ws,rfl,seq,all⟩:=a0k cells rep seen
  have dp:=a8l okd all
  rw [hK] at seq dp
  obtain ⟨its,rel,at_its,fits⟩:=inv.list seq
  obtain ⟨as,reads⟩:=Dp.readsAll inv _ ws its dp rel
  have deep:=a3n okd
  have each:∀ d∈ds,d.py.depth≤59:=by
   have gen:∀ es:List D,PyData.depthAll (D.pys es)≤59→∀ d∈es,d.py.depth≤59:=by
    intro es
    induction es with
    | nil=>exact fun _ _ h=>nomatch h
    | cons x es ih =>
     intro h d hd
     simp only [D.pys,PyData.depthAll] at h
     rcases zau.mp hd with rfl | hd
     ·omega
     ·exact ih (by omega) d hd
   exact gen ds deep
  rw [Vals.ref1 given]
  refine PySem.W.sorted_data (bs:=ds) (enc:=D.py) (R:=fun u d=>∃ v,RelV v u∧Rep g S H d v) at_its.isList (a3P rel all) (a4f reads) al so (by rw [all.length];exact fits) (fun b hb=>by have:=each b hb;omega) fun out len is=>?_
  obtain ⟨vs2,r1,r2⟩:=a3q is
  obtain ⟨ep,here⟩:=PyProof.Rows.sortedAll_at s.heap its out.toArray
  have few:vs2.length≤sizeLine:=by rw [r1.length,len,all.length];exact fits
  refine ⟨.ref _,upd H (s.heap.objs.size + 1) (.lst vs2),inv.laid (t':=s.toks) (fun _ _=>PyProof.Rows.sortedAll_old) (Nat.le_succ _) ⟨few,out,ep,r1,here⟩,rfl,res.outL k cells r2 (inv.hok.fresh (Nat.le_succ _))⟩
 ·exact told.elim
end
end Sv
namespace Sv
open PySem PySem.Spec PySem.Calls PyProof.Rows L2
def Head3 (h:Heap) (v:Value) (p:Int × Int):Prop:=∃ a o n t u x,v=.ref a∧h.get? a=some o∧o.cls=.type "tuple" ∧ o.data=.seq #[.int p.1 t,.int p.2 u,.ref x] n
theorem Head3.one {h:Heap} {v:Value} {p q:Int × Int} (a:Head3 h v p) (b:Head3 h v q):p=q:=by
 obtain ⟨a,o,n,t,u,x,rfl,h1,_,h3⟩:=a
 obtain ⟨a',o',n',t',u',x',e,k1,_,k3⟩:=b
 cases e
 rw [h1] at k1
 cases k1
 rw [h3] at k3
 injection k3 with k3 _
 have k3:=congrArg Array.toList k3
 simp only [List.cons.injEq,Value.int.injEq] at k3
 exact Prod.ext k3.1.1 k3.2.1.1
theorem Head3.keep {h h':Heap} {v:Value} {p:Int × Int} (k:∀ b o,h.get? b=some o→h'.get? b=some o) (a:Head3 h v p):Head3 h' v p:=by
 obtain ⟨a,o,n,t,u,x,e,h1,h2,h3⟩:=a
 exact ⟨a,o,n,t,u,x,e,k _ _ h1,h2,h3⟩
def a1f (p:Int × Int):List (Int ⊕ List Nat):=[.inl p.1,.inl p.2]
noncomputable def a4B (h:Heap) (us:List Value):PyProof.Rows.KeyKind where
 toKeyOrd:=listOrd itemOrd
 keyOf v:=open Classical in if q:∃ p,Head3 h v p∧v∈us then some (a1f q.choose) else none
 dflt:=([]:List (Int ⊕ List Nat))
theorem a4d {h:Heap} {us:List Value} {v:Value} {p:Int × Int} (hv:v∈us) (q:Head3 h v p):(a4B h us).keyOf v=some (a1f p):=by
 have q':∃ p,Head3 h v p∧v∈us:=⟨p,q,hv⟩
 show (open Classical in if q:∃ p,Head3 h v p∧v∈us then some (a1f q.choose) else none)=_
 rw [dif_pos q',q'.choose_spec.1.one q]
theorem a5n {h:Heap} {us:List Value} {v:Value} {k:List (Int ⊕ List Nat)} (e:(a4B h us).keyOf v=some k):∃ p,v∈us∧Head3 h v p∧k=a1f p:=by
 have e:(open Classical in if q:∃ p,Head3 h v p∧v∈us then some (a1f q.choose) else none)=some k:=e
 split at e
 ·rename_i q
  cases e
  exact ⟨_,q.choose_spec.2,q.choose_spec.1,rfl⟩
 ·cases e
section
variable {prog:Program} {w:World} {A:Around} {E:Value→Shared→Prop} {s:Shared}
theorem a6b {l:Addr} {Q:Bool→Shared→Prop} (h:Q true s):wpAny (model prog w) A (eqBool (.ref l) (.ref l)) Q E s:=by
 unfold eqBool
 refine wpAny_holding ?_
 show wpAny _ _ (if (Value.ref l == Value.ref l)=true then _ else _) Q E s
 rw [if_pos (by simp)]
 exact wpAny_bind (wpAny_rule (wpAny_pure h))
theorem a9A {p q:Int × Int} {t u t' u':Tok} {x x':Addr} {b fin:Bool} {Q:Bool→Shared→Prop} (same:p=q→x=x'∧fin=false) (h:Q (lexLt itemOrd (a1f p) (a1f q)) s) :
  PySem.W.KatLex prog w A b fin Q [(.int p.1 t,.int q.1 t'),(.int p.2 u,.int q.2 u'),(.ref x,.ref x')] 0 s:=by
 refine PySem.W.kat_cons (wpAny_eqBool_int ?_)
 refine PySem.W.kat_go (fun e=>PySem.W.kat_yes ?_) (fun e=>PySem.W.kat_no ?_)
 ·have e1:p.1=q.1:=by simpa using e
  refine PySem.W.kat_cons (wpAny_eqBool_int ?_)
  refine PySem.W.kat_go (fun e=>PySem.W.kat_yes ?_) (fun e=>PySem.W.kat_no ?_)
  ·have e2:p.2=q.2:=by simpa using e
   obtain ⟨rfl,rfl⟩:=same (Prod.ext e1 e2)
   have e3:p=q:=Prod.ext e1 e2
   subst e3
   rw [lex_irrefl] at h
   exact PySem.W.kat_cons (a6b (PySem.W.kat_go (fun _=>PySem.W.kat_yes (PySem.W.kat_nil h)) (fun e=>by cases e)))
  ·have e2:¬ p.2=q.2:=by simpa using e
   have e:lexLt itemOrd (a1f p) (a1f q)=decide (p.2 < q.2):=by
    unfold a1f
    rw [e1,lex_self,lex_diff (fun z=>e2 (Sum.inl.inj z))]
    rfl
   rw [e] at h
   exact oneLt_any_int h
 ·have e1:¬ p.1=q.1:=by simpa using e
  have e:lexLt itemOrd (a1f p) (a1f q)=decide (p.1 < q.1):=by
   unfold a1f
   rw [lex_diff (fun z=>e1 (Sum.inl.inj z))]
   rfl
  rw [e] at h
  exact oneLt_any_int h
theorem b6t {h:Heap}:∀ {us:List Value} {ps:List (Int × Int)},PySem.W.EachIs (Head3 h) us ps→∃ fs,PySem.W.KatTups h us fs∧fs.length=us.length∧∀ f∈fs,∃ i t,f=Value.int i t
 | _,_,.nil=>⟨[],PySem.W.KatTups.nil,rfl,fun _ h=>nomatch h⟩
 | _,_,.cons (as:=us) ⟨a,o,n,t,u,x,e,h1,h2,h3⟩ more=>by
  obtain ⟨fs,k1,k2,k3⟩:=b6t more
  subst e
  refine ⟨_ :: fs,PySem.W.KatTups.cons h1 h2 h3 rfl k1,by rw [zaz,k2];rfl,fun f hf=>?_⟩
  rcases zau.mp hf with rfl | hf
  ·exact ⟨_,_,rfl⟩
  ·exact k3 f hf
theorem b5M {us:List Value} {ps:List (Int × Int)} (e:PySem.W.EachIs (Head3 s.heap) us ps) (ne:∀ u∈us,∀ u'∈us,∀ p,Head3 s.heap u p→Head3 s.heap u' p→u=u'):PySem.W.SortsAt prog w A s (a4B s.heap us) us:=by
 refine ⟨fun v hv=>?_,tuples' (Value.type "int" != Value.type "tuple"),?_,fun h2 E Q hq=>?_⟩
 ·obtain ⟨p,_,hp⟩:=e.left v hv
  exact ⟨_,a4d hv hp⟩
 ·intro E x y a b Q ha hb hq
  obtain ⟨p,mx,hx,rfl⟩:=a5n ha
  obtain ⟨q,my,hy,rfl⟩:=a5n hb
  have same:p=q→x=y:=fun e=>ne x mx y my p hx (e ▸ hy)
  obtain ⟨a,o,n,t,u,z,rfl,h1,_,h3⟩:=hx
  obtain ⟨a',o',n',t',u',z',rfl,k1,_,k3⟩:=hy
  refine PySem.W.kat_lt h1 h3 k1 k3 ?_
  refine a9A (fun e=>⟨?_,rfl⟩) hq
  have e:=same e
  cases e
  rw [h1] at k1
  cases k1
  rw [h3] at k3
  injection k3 with k3 _
  have k3:=congrArg Array.toList k3
  simp only [List.cons.injEq,Value.ref.injEq] at k3
  exact k3.2.2.1
 ·obtain ⟨fs,t1,t2,t3⟩:=b6t e
  refine PySem.W.kat_kind (T:=Value.type "int") t1 (by omega) (fun f hf=>?_) (beq_self_eq_true _) hq
  obtain ⟨i,t,rfl⟩:=t3 f hf
  exact PySem.W.looks_reads (Reads.int i t)
end
def leP (p q:Int × Int × List D):Bool:=decide (p.1 < q.1∨p.1=q.1∧p.2.1≤q.2.1)
def b0L (p:Int × Int × List D):D:=.tup [.int p.1,.int p.2.1,.tup p.2.2]
def hd3 (p:Int × Int × List D):Int × Int:=(p.1,p.2.1)
def a4P (cell:Bool) (xs:List D) (S:SS) (K:DK):Prop:=match xs with
 | [d]=>∃ ps:List (Int × Int × List D),vw S d=.lst (ps.map b0L)∧(ps.map hd3).Nodup∧outL cell ((ps.mergeSort leP).map b0L) S K
 | _=>False
theorem b0g (p q:Int × Int × List D):PySem.W.sortLe (listOrd itemOrd) false (fun p:Int × Int × List D=>a1f (hd3 p)) p q=leP p q:=by
 show (!lexLt itemOrd (a1f (hd3 q)) (a1f (hd3 p)))=leP p q
 unfold leP a1f hd3
 by_cases e1:q.1=p.1
 ·dsimp only
  rw [e1,lex_self]
  by_cases e2:q.2.1=p.2.1
  ·rw [e2,lex_irrefl,zbg (.inr ⟨rfl,Int.le_refl _⟩)]
   rfl
  ·rw [lex_diff (fun z=>e2 (Sum.inl.inj z))]
   show (!decide (q.2.1 < p.2.1))=_
   rw [Bool.eq_iff_iff]
   simp
 ·dsimp only
  rw [lex_diff (fun z=>e1 (Sum.inl.inj z))]
  show (!decide (q.1 < p.1))=_
  rw [Bool.eq_iff_iff]
  simp
  omega
theorem a3p {β γ:Type} {R:Value→γ→Prop} (f:β→γ):∀ {vs:List Value} {bs:List β},PySem.W.EachIs (fun v b=>R v (f b)) vs bs→PySem.W.EachIs R vs (bs.map f)
 | _,_,.nil=>.nil
 | _,_,.cons h1 t=>.cons h1 (a3p f t)
theorem a5h {h:Heap}:∀ {us:List Value} {ps:List (Int × Int × List D)},PySem.W.EachIs (fun u p=>Head3 h u (hd3 p)) us ps→(ps.map hd3).Nodup→∀ u∈us,∀ u'∈us,∀ q,Head3 h u q→Head3 h u' q→u=u'
 | _,_,.nil,_,_,hu,_,_,_,_,_=>nomatch hu
 | u0 :: us,p0 :: ps,.cons h0 more,nd,u,hu,u',hu',q,k,k'=>by
  rw [zax,zbd] at nd
  have out:∀ v∈us,Head3 h v q→hd3 p0≠q:=fun v hv kv e=>by
   obtain ⟨p1,hp1,k1⟩:=more.left v hv
   have:=k1.one kv
   exact nd.1 (zan.mpr ⟨p1,hp1,this.trans e.symm⟩)
  rcases zau.mp hu with e1 | m1
  ·rcases zau.mp hu' with e2 | m2
   ·rw [e1,e2]
   ·exact absurd (h0.one (e1 ▸ k)) (out u' m2 k')
  ·rcases zau.mp hu' with e2 | m2
   ·exact absurd (h0.one (e2 ▸ k')) (out u m1 k)
   ·exact a5h more nd.2 u m1 u' m2 q k k'
section
variable {X:Cx} {g:Gd}
theorem b0y {S:SS} {H:Hp} {v:V} {p:Int × Int × List D} (r:Rep g S H (b0L p) v):∃ a x,v=.ref a∧SqT g.K H a [.int p.1,.int p.2.1,.ref x]:=by
 obtain ⟨a,vs,rfl,at_,all⟩:=a0C r (show vw S (b0L p)=.tup [.int p.1,.int p.2.1,.tup p.2.2] from rfl)
 simp only [a0e] at all
 obtain ⟨v1,r1,rfl,e1,v2,r2,rfl,e2,v3,r3,rfl,e3,rfl⟩:=all
 simp only [Rep] at e1 e2 e3
 subst e1
 subst e2
 obtain ⟨x,_,rfl,_⟩:=e3
 exact ⟨a,x,rfl,at_⟩
theorem a7N (calm:X.calm=true) (hK:g.K=X.K) (room:X.A.units + 65 < cLine) (cell:Bool):CallR X (.builtin "sorted") (rDc g (a4P cell)):=by
 rintro pins s σ H vs us Q inv given ⟨xs,S,K,cells,reps,told,res⟩
 unfold a4P at told
 split at told
 ·rename_i d
  obtain ⟨v,rfl,rep⟩:=one_of reps
  obtain ⟨ps,seen,nd,k⟩:=told
  obtain ⟨a,ws,rfl,seq,all⟩:=a0k cells rep seen
  rw [hK] at seq
  obtain ⟨its,rel,at_its,fits⟩:=inv.list seq
  have lay:∀ (u:Value) (v:V) (p:Int × Int × List D),RelV v u→Rep g S H (b0L p) v→Head3 s.heap u (hd3 p):=fun u v p hu hr=>by
   obtain ⟨a,x,rfl,at_⟩:=b0y hr
   rw [hK] at at_
   obtain ⟨its2,rel2,⟨o,h1,h2,n,h3⟩,_⟩:=inv.tuple at_
   have hu:u=.ref a:=hu
   subst hu
   cases rel2 with
   | cons q1 q2 =>
    cases q2 with
    | cons q2 q3 =>
     cases q3 with
     | cons q3 q4 =>
      cases q4
      obtain ⟨t1,rfl⟩:=q1
      obtain ⟨t2,rfl⟩:=q2
      cases q3
      exact ⟨a,o,n,t1,t2,x,rfl,h1,h2,h3⟩
  have e:PySem.W.EachIs (fun u p=>∃ v,RelV v u∧Rep g S H (b0L p) v) its ps:=PySem.W.each_of_map b0L (a3P rel all)
  have eh:PySem.W.EachIs (fun u p=>Head3 s.heap u (hd3 p)) its ps:=e.mono fun u p ⟨v,h1,h2⟩=>lay u v p h1 h2
  have eh':PySem.W.EachIs (fun u p=>Head3 (PySem.W.sortingHeap (PySem.W.copyHeap s.heap its) (s.heap.objs.size + 1) its) u (hd3 p)) its ps:=eh.mono fun u p h=>h.keep fun _ _=>PySem.W.sorting_copy_old
  have l1:its.length=ps.length:=e.length
  have hk:PySem.W.EachIs (fun v p=>(a4B (PySem.W.sortingHeap (PySem.W.copyHeap s.heap its) (s.heap.objs.size + 1) its) its).keyOf v=some (a1f (hd3 p))) its ps:=PySem.W.EachIs.of_zip l1 fun q hq=>a4d (List.of_mem_zip hq).1 (eh'.zip q hq)
  have so:=PySem.W.sortVals_each (κ:=a4B (PySem.W.sortingHeap (PySem.W.copyHeap s.heap its) (s.heap.objs.size + 1) its) its) (rev:=false) (fun p=>a1f (hd3 p)) e hk
  have el:PySem.W.sortLe (listOrd itemOrd) false (fun p:Int × Int × List D=>a1f (hd3 p))=leP:=funext fun p=>funext fun q=>b0g p q
  have so:PySem.W.EachIs (fun u p=>∃ v,RelV v u∧Rep g S H (b0L p) v) (PySem.W.sortVals (a4B (PySem.W.sortingHeap (PySem.W.copyHeap s.heap its) (s.heap.objs.size + 1) its) its) false its its) (ps.mergeSort leP):=by rw [← el];exact so
  rw [Vals.ref1 given]
  refine PySem.W.sorted_vals (κ:=a4B (PySem.W.sortingHeap (PySem.W.copyHeap s.heap its) (s.heap.objs.size + 1) its) its) at_its.isList (b5M (s:={ s with heap:=PySem.W.sortingHeap (PySem.W.copyHeap s.heap its) (s.heap.objs.size + 1) its }) (ps:=ps.map hd3) (a3p hd3 eh') (a5h eh' nd)) (by have:=rel.length;omega) ?_
  have len:=PySem.W.sortVals_length (κ:=a4B (PySem.W.sortingHeap (PySem.W.copyHeap s.heap its) (s.heap.objs.size + 1) its) its) (ks:=its) (vs:=its) false rfl
  generalize PySem.W.sortVals (a4B (PySem.W.sortingHeap (PySem.W.copyHeap s.heap its) (s.heap.objs.size + 1) its) its) false its its=out at so len ⊢
  obtain ⟨vs2,r1,r2⟩:=a3q (a3p (R:=fun u d=>∃ v,RelV v u∧Rep g S H d v) b0L so)
  obtain ⟨ep,here⟩:=PyProof.Rows.sortedAll_at s.heap its out.toArray
  have few:vs2.length≤sizeLine:=by rw [r1.length,len,rel.length.symm];exact fits
  exact ⟨.ref _,upd H (s.heap.objs.size + 1) (.lst vs2),inv.laid (t':=s.toks) (fun _ _=>PyProof.Rows.sortedAll_old) (Nat.le_succ _) ⟨few,out,ep,r1,here⟩,rfl,res.outL k cells r2 (inv.hok.fresh (Nat.le_succ _))⟩
 ·exact told.elim
end
end Sv
namespace Sv
open PySem PySem.Spec PyProof.Rows L2
theorem a8q {v:Value} {o:Obj} {Hd:Heap→Prop} (B:Begins v o Hd) :
  Meets (Builtin.«enumerate.__new__» ⟨[.type "enumerate",v],[]⟩) (fun _ R s=>Hd s.heap ∧
   R (.ok (.ret (.ref (s.heap.push o).objs.size))) { s with heap:=(s.heap.push o).push { cls:=.type "enumerate",data:=.fields #[.none,.bool false,.ref s.heap.objs.size,rawInt 0,.none,.none] } }) :=
 .of_wp fun prog w A R s ⟨stands,want⟩=>by
  obtain ⟨hp,gen,dr,tk,os⟩:=s
  have below:=sub_enumerate
  have starts:∀ {A':Around} {E Q:Value→Shared→Prop},Q (.ref hp.objs.size) ⟨hp.push o,gen,dr,tk,os⟩→wpAny (model prog w) A' (pyIter v) Q E ⟨hp,gen,dr,tk,os⟩:=fun q=>B.iter prog w _ _ ⟨hp,gen,dr,tk,os⟩ _ stands q
  wp_walk using starts
  refine wpAny_stack_any fun top=>wpAny_pure ?_
  split
  ·rename_i cl _ _ _ _ _
   cases (cl == Value.type "enumerate") <;> (wp_walk using starts) <;> exact ⟨_,rfl,want⟩
  ·wp_walk using starts
   exact ⟨_,rfl,want⟩
section
variable {prog:Program} {w:World} {A:Around} {E:Value→Shared→Prop} {s:Shared}
theorem a8p {v:Value} {o:Obj} {Hd:Heap→Prop} {Q:Value→Shared→Prop} (B:Begins v o Hd) (stands:Hd s.heap)
  (want:∀ h',IsEnum h' (s.heap.objs.size + 1) s.heap.objs.size 0 .none→h'.get? s.heap.objs.size=some o→h'.objs.size=s.heap.objs.size + 2→(∀ b u,s.heap.get? b=some u→h'.get? b=some u)→Q (.ref (s.heap.objs.size + 1)) { s with heap:=h' }) :
  wpAny (model prog w) A (call (.type "enumerate") [v]) Q E s:=by
 have one:(s.heap.push o).objs.size=s.heap.objs.size + 1:=Heap.size_push ..
 have top:=Heap.get?_push_size (s.heap.push o) (o:=⟨.type "enumerate",none,.fields #[.none,.bool false,.ref s.heap.objs.size,rawInt 0,.none,.none],#[]⟩) rfl
 rw [one] at top
 refine callType_new F.called_enumerate (by decide) (F.typeCall_enumerate_1 _) (F.newCall_enumerate_1 _) (fun obj=>F.args_object_init_2 obj _) F.entry_enumerate_new (a8q B) ⟨stands,?_⟩
 refine ⟨?_,?_⟩
 ·rw [one]
  exact ⟨_,top,rfl⟩
 ·rw [one]
  exact want _ top (Heap.get?_push_of_some _ (Heap.get?_push_size _ B.free)) (by rw [Heap.size_push,one]) fun b u x=>Heap.get?_push_of_some _ (Heap.get?_push_of_some _ x)
end
def b7w (K:zbj) (a:Addr):It :=
 ⟨fun i H=>∃ xs x,SqT K H a xs∧xs[i]?=some x,fun i H v H'=>∃ T x,v=.ref T∧H T=none∧H'=upd H T (.tup [.int (i:Nat),x])∧∀ xs,SqT K H a xs→xs[i]?=some x,fun i H=>∃ xs:List V,SqT K H a xs∧xs.length≤i⟩
theorem a3A {h:Heap} {a b:Addr} {o u:Obj} (ha:h.get? a=some o) (hb:h.get? b=some u) (ne:o.cls≠u.cls):a≠b:=fun e=>ne (by rw [e,hb] at ha;cases ha;rfl)
theorem a7Q {P:Program} {w:World} {K:zbj} {elts:List Expr} {kk:Nat} {tpos:Pos} (a e it:Addr) :
  Turn P w K (.Tuple elts kk tpos) (b7w K a) [e,it] e (fun i h=>(∃ old,IsEnum h e it ((i:Nat):Int) old)∧h.IsTupleIter it a i) where
 mem:=zal
 obj:=fun i h ⟨⟨old,en⟩,⟨o,at_it,_,dt⟩⟩ b hb=>by
  rcases zau.mp hb with rfl | hb
  ·exact ⟨_,en,nofun⟩
  ·rw [zaj.mp hb]
   exact ⟨o,at_it,fun v q=>by rw [dt] at q;cases q⟩
 keep:=fun i h h' ⟨⟨old,en⟩,walk⟩ k=>⟨⟨old,k e zal _ en⟩,walk.at fun o q=>k it (zao _ zal) o q⟩
 item:=by
  intro X hP hw hK calm i pins s σ H E I free st g
  subst hP hw hK
  obtain ⟨⟨old,en⟩,walk⟩:=st
  obtain ⟨xs,x,seq,at_i⟩:=g
  obtain ⟨its,vals,tup,_⟩:=I.tuple seq
  obtain ⟨oi,gi,ci,_⟩:=id walk
  obtain ⟨oa,ga,ca,_⟩:=id tup
  have ei:e≠it:=a3A en gi (by rw [ci];exact (by decide:Value.type "enumerate" ≠ .type "tuple_iterator"))
  have ea:e≠a:=a3A en ga (by rw [ca];exact (by decide:Value.type "enumerate" ≠ .type "tuple"))
  have ai:a≠it:=a3A ga gi (by rw [ca,ci];decide)
  have inside:i < its.toArray.size:=by
   have l:=vals.length
   have:=(List.getElem?_eq_some_iff.mp at_i).1
   rw [List.size_toArray]
   omega
  have W:=WalksT.enumerateD (prog:=X.prog) (w:=X.w) (A:=X.A) (fp:=[it,a]) (Draws.tuple (A:=X.A.in1) (I.ok.hd calm) it a ai its.toArray) e ei (by simp [ei,ea]) zal
  refine W.item i s _ _ inside ⟨⟨old,en⟩,walk,tup⟩ fun T got h1 tk told young isT mid kept=>?_
  obtain ⟨t0,v,here,rfl⟩:=told
  refine ⟨_,rfl,W.go elts kk tpos i T _ _ _ mid fun h2 st2 kept2=>?_⟩
  obtain ⟨u,hu,ru⟩:=vals.get at_i
  have uv:u=v:=by
   have:its.toArray[i]?=some u:=by simpa using hu
   rw [here] at this
   exact (Option.some.inj this).symm
  subst uv
  obtain ⟨oT,gT,cT,nT,dT⟩:=isT
  have gT2:=kept2 T oT (W.apart i T h1 mid) gT
  have new:ObjOk X.prog X.w (upd H T (.tup [.int (i:Nat),x])) h2 T (.tup [.int (i:Nat),x]):=⟨by show 2≤sizeLine;decide,[.int i t0,u],.cons ⟨_,rfl⟩ (.cons ru .nil),oT,gT2,cT,nT,dT⟩
  have J:=I.turnedNew (t':=tk) (ch:=[e,it]) (fun b o hb q=>kept2 b o hb (kept b o hb q)) free young new
  refine ⟨.ref T,_,J,rfl,⟨T,x,rfl,I.hok.fresh young,rfl,fun ys hy=>by rw [I.tuple_inj hy seq];exact at_i⟩,?_,fun b hb=>?_⟩
  ·obtain ⟨⟨old2,en2⟩,walk2,_⟩:=st2
   exact ⟨⟨old2,en2⟩,walk2⟩
  ·have ne:b≠T:=fun q=>W.apart i T h1 mid (by rw [← q];exact hb)
   rw [upd_ne ne]
   exact (free b hb).1
 done:=by
  intro X hP hw hK calm i pins s σ H E I free st g
  subst hP hw hK
  obtain ⟨⟨old,en⟩,walk⟩:=st
  obtain ⟨xs,seq,past⟩:=g
  obtain ⟨its,vals,tup,_⟩:=I.tuple seq
  obtain ⟨oi,gi,ci,di⟩:=id walk
  obtain ⟨oa,ga,ca,_⟩:=id tup
  have l:=vals.length
  have gone:its.toArray[i]?=none:=by rw [List.getElem?_toArray];exact List.getElem?_eq_none (by omega)
  have over:Draws X.prog X.w X.A.in1 it [it,a] 0 (fun _ _=>False) (fun _ h=>h.IsTupleIter it a i∧h.IsTuple a its.toArray) :=
   {
    live:=fun _ _ ⟨⟨o,q,_⟩,_⟩=>⟨o,q⟩
    frame:=fun _ _ _ st k=>⟨st.1.at fun o q=>k it zal o q,st.2.at fun o q=>k a (zao _ zal) o q⟩
    item:=fun _ _ _ _ none _ _=>absurd none (Nat.not_lt_zero _)
    done:=fun _ _ _ st hE=>wpAny_nextOf_tuple_end (I.ok.hd calm) st.1 st.2 gone hE }
  refine wpAny_pyNext_enum_endD over en ⟨walk,tup⟩ fun h' kept=>⟨rfl,?_⟩
  obtain ⟨f0,f1,f2,f3,f4,f5⟩:=free it (zao _ zal)
  exact I.turned (t':=s.toks) (fun b o hb q=>kept b o hb q) f0 f1 f3 f4 f5
 self:=fun A i s Q E ⟨⟨_,en⟩,_⟩ h=>wpAny_pyIter_enum en h
def b4L (K:zbj) (ta:TA):TI:=fun σ H R=>ta σ H fun vs H1=>∃ a xs,vs=[.ref a]∧SqT K H1 a xs∧R (b7w K a) H1
theorem b0r {X:Cx} {x:Expr} {ta:TA} {p pos tpos:Pos} {elts:List Expr} {kk:Nat} (glob:Gl X "enumerate") (free:X.mg "enumerate" = none) (arg:PA X [x] ta) (plain:starEach [x] X.env=[(false,eval x X.env)]) :
  PI X (.Tuple elts kk tpos) (.Call (.Name "enumerate" p) [x] [] pos) (b4L X.K ta):=by
 refine ⟨fun pins s σ H R I h=>?_⟩
 refine Call_ (ld_blt I glob free boot_enumerate (callWith_type1 (thn (arg.run pos pins s σ H _ I h) fun us s1 ⟨vs,H1,I1,like,want⟩=>?_) plain rfl))
 obtain ⟨a,xs,rfl,seq,want⟩:=want
 cases like with
 | cons one rest =>
  cases rest
  cases one
  obtain ⟨its,vals,tup,_⟩:=I1.tuple seq
  refine a8p (begins_tuple a its.toArray) tup fun h' en at_it _ kept=>wpAny_pyIter_enum en ?_
  refine ⟨_,[s1.heap.objs.size + 1,s1.heap.objs.size],_,_,H1,rfl,I1.kept (t':=s1.toks) kept,a7Q a (s1.heap.objs.size + 1) s1.heap.objs.size,⟨⟨.none,en⟩,⟨_,at_it,rfl,rfl⟩⟩,fun b hb=>?_,want⟩
  have late:s1.heap.objs.size≤b:=by
   rcases zau.mp hb with rfl | hb
   ·exact Nat.le_add_right _ _
   ·exact Nat.le_of_eq (zaj.mp hb).symm
  exact I1.fpOk late (I1.hok.fresh late)
end Sv
namespace Sv
open PySem PySem.Spec PyProof.Rows L2
def SqB (K:zbj):Bool→Hp→Addr→List V→Prop
 | true=>SqT K
 | false=>SqL K
def IsB:Bool→Heap→Addr→Array Value→Prop
 | true=>Heap.IsTuple
 | false=>Heap.IsList
def ItB:Bool→Heap→Addr→Addr→Nat→Prop
 | true=>Heap.IsTupleIter
 | false=>Heap.IsListIter
def c1g:Bool→Addr→Obj
 | true,a=>{ cls:=.type "tuple_iterator",data:=.fields #[.ref a,.int 0 0] }
 | false,a=>{ cls:=.type "list_iterator",data:=.fields #[.ref a,.int 0 0] }
theorem c04 (t:Bool) (a:Addr) (its:Array Value):Begins (.ref a) (c1g t a) fun h=>IsB t h a its:=by
 cases t
 ·exact begins_list a its
 ·exact begins_tuple a its
theorem c1c {t:Bool} {h:Heap} {it a:Addr} (e:h.get? it=some (c1g t a)):ItB t h it a 0:=by
 cases t <;> exact ⟨_,e,rfl,rfl⟩
theorem ItB.at_ {t:Bool} {h h':Heap} {it a:Addr} {i:Nat} (x:ItB t h it a i) (k:∀ o,h.get? it=some o→h'.get? it=some o):ItB t h' it a i:=by
 cases t
 ·exact Heap.IsListIter.at x k
 ·exact Heap.IsTupleIter.at x k
theorem ItB.obj {t:Bool} {h:Heap} {it a:Addr} {i:Nat} (x:ItB t h it a i):∃ o,h.get? it=some o∧∀ v,o.data≠.cell v:=by
 cases t <;> (obtain ⟨o,e,_,d⟩:=x;exact ⟨o,e,fun v q=>by rw [d] at q;cases q⟩)
theorem a6M {prog:Program} {w:World} {A:Around} (t:Bool) (hh:A.handled=none) (it a:Addr) (ne:a≠it) (its:Array Value) (i:Nat) :
  Draws prog w A it [it,a] (its.size - i) (fun j v=>its[i + j]?=some v) (fun j h=>ItB t h it a (i + j)∧IsB t h a its):=by
 cases t
 ·exact {
   live:=fun _ _ st=>let ⟨o,ho,_⟩:=st.1;⟨o,ho⟩
   frame:=fun _ _ _ st hk=>⟨Heap.IsListIter.at st.1 fun o e=>hk it (by simp) o e,Heap.IsList.at st.2 fun o e=>hk a (by simp) o e⟩
   item:=fun j s Q E hj st hQ=>by
    have hi:i + j < its.size:=by omega
    refine wpAny_nextOf_list_item st.1 st.2 (x:=its[i + j]) (by simp [hi]) fun h' hit' hs'=>?_
    exact hQ _ h' s.toks (by simp [hi]) ⟨hit',Heap.IsList.extBut st.2 hs'.extBut ne⟩ hs'
   done:=fun s Q E st hE=>wpAny_nextOf_list_end hh st.1 st.2 (Array.getElem?_eq_none (by omega)) hE }
 ·exact {
   live:=fun _ _ st=>let ⟨o,ho,_⟩:=st.1;⟨o,ho⟩
   frame:=fun _ _ _ st hk=>⟨Heap.IsTupleIter.at st.1 fun o e=>hk it (by simp) o e,Heap.IsTuple.at st.2 fun o e=>hk a (by simp) o e⟩
   item:=fun j s Q E hj st hQ=>by
    have hi:i + j < its.size:=by omega
    refine wpAny_nextOf_tuple_item st.1 st.2 (x:=its[i + j]) (by simp [hi]) fun h' hit' hs'=>?_
    exact hQ _ h' s.toks (by simp [hi]) ⟨hit',Heap.IsTuple.extBut st.2 hs'.extBut ne⟩ hs'
   done:=fun s Q E st hE=>wpAny_nextOf_tuple_end hh st.1 st.2 (Array.getElem?_eq_none (by omega)) hE }
theorem b3i {X:Cx} {pins:List (Addr × Obj)} {σ:L2.St} {H:Hp} {s:Shared} (I:Inv X pins σ H s) (t:Bool) {a:Addr} {xs:List V} (h:SqB X.K t H a xs):∃ its:List Value,Vals xs its∧IsB t s.heap a its.toArray:=by
 cases t
 ·obtain ⟨its,rv,p,_⟩:=I.list h
  exact ⟨its,rv,p.isList⟩
 ·obtain ⟨its,rv,p,_⟩:=I.tuple h
  exact ⟨its,rv,p⟩
theorem c1b {X:Cx} {pins:List (Addr × Obj)} {σ:L2.St} {H:Hp} {s:Shared} (I:Inv X pins σ H s) {t:Bool} {a:Addr} {xs ys:List V} (h:SqB X.K t H a xs) (h':SqB X.K t H a ys):xs=ys:=by
 cases t
 ·exact I.list_inj h h'
 ·exact I.tuple_inj h h'
theorem b07 {N d:Addr} (h:d < N):∀ c∈([N + 4,N + 2,N + 3,N,N + 1]:List Addr),c≠d:=fun c hc e=>by
 have e':c=N + 4∨c=N + 2∨c=N + 3∨c=N∨c=N + 1:=by simpa using hc
 have lo:N≤c:=by
  rcases e' with z | z | z | z | z
  ·rw [z];exact Nat.le_add_right _ _
  ·rw [z];exact Nat.le_add_right _ _
  ·rw [z];exact Nat.le_add_right _ _
  ·rw [z];exact Nat.le_refl _
  ·rw [z];exact Nat.le_add_right _ _
 exact absurd (Nat.lt_of_lt_of_le h lo) (by rw [e];exact Nat.lt_irrefl _)
theorem ltB {t:Bool} {h:Heap} {a:Addr} {its:Array Value} (x:IsB t h a its):a < h.objs.size:=by
 cases t <;> (obtain ⟨o,e,_⟩:=x;exact Heap.lt_size e)
def b7x (K:zbj) (t1:Bool) (a:Addr) (t2:Bool) (b:Addr):It :=
 ⟨fun i H=>∃ (xs ys:List V) (x y:V),SqB K t1 H a xs∧SqB K t2 H b ys∧xs[i]?=some x∧ys[i]?=some y,
  fun i H v H'=>∃ T x y,v=.ref T∧H T=none∧H'=upd H T (.tup [x,y])∧(∀ xs,SqB K t1 H a xs→xs[i]?=some x)∧∀ ys,SqB K t2 H b ys→ys[i]?=some y,
  fun i H=>∃ xs ys:List V,SqB K t1 H a xs∧SqB K t2 H b ys∧(xs.length≤i∨ys.length≤i)⟩
theorem c1C {N a b:Addr} (ha:∀ c∈([N + 4,N + 2,N + 3,N,N + 1]:List Addr),c≠a) (hb:∀ c∈([N + 4,N + 2,N + 3,N,N + 1]:List Addr),c≠b):ZipSep2 (N + 4) (N + 2) (N + 3) N (N + 1) [N,a] [N + 1,b]:=by
 have q:∀ {i j:Nat},i≠j→(N + i:Addr)≠(N + j:Addr):=fun {i j} h e=>h (Nat.add_left_cancel e)
 have q0:∀ {i:Nat},i≠0→(N + i:Addr)≠N:=fun {i} h e=>h (Nat.add_left_cancel (e.trans (Nat.add_zero N).symm))
 have no:∀ {c x y:Addr},c≠x→c≠y→c∉([x,y]:List Addr):=fun h1 h2 h=>by
  rcases zau.mp h with e | h
  ·exact h1 e
  ·exact h2 (zaj.mp h)
 exact {
  TIz:=q (by decide),TOz:=q (by decide),TITO:=q (by decide),TIi1:=q0 (by decide),mem1:=zal
  zf1:=no (q0 (by decide)) (ha _ (by simp)),Tf1:=no (q0 (by decide)) (ha _ (by simp)),TIi2:=q (by decide),mem2:=zal
  zf2:=no (q (by decide)) (hb _ (by simp)),Tf2:=no (q (by decide)) (hb _ (by simp))
  sep1_2:=no (q0 (by decide)).symm (hb _ (by simp)),sep2_1:=no (q0 (by decide)) (ha _ (by simp)) }
theorem a9D {P:Program} {w:World} {K:zbj} {elts:List Expr} {kk:Nat} {tpos:Pos} (t1 t2:Bool) {a b N:Addr} (la:a < N) (lb:b < N) :
  Turn P w K (.Tuple elts kk tpos) (b7x K t1 a t2 b) [N + 4,N + 2,N + 3,N,N + 1] (N + 4) (fun i h=>IsZip h (N + 4) (N + 2) (N + 3) .none∧IsTupOf2 h (N + 2) (.ref N) (.ref (N + 1))∧(∃ x y,IsTupOf2 h (N + 3) x y)∧ItB t1 h N a i∧ItB t2 h (N + 1) b i) where
 mem:=by simp
 obj:=fun i h st c hc=>by
  obtain ⟨hz,hTI,⟨x,y,hTO⟩,h1,h2⟩:=st
  have e':c=N + 4∨c=N + 2∨c=N + 3∨c=N∨c=N + 1:=by simpa using hc
  rcases e' with q | q | q | q | q
  ·rw [q];exact ⟨_,hz,fun v q=>nomatch q⟩
  ·rw [q];exact ⟨_,hTI,fun v q=>nomatch q⟩
  ·rw [q];exact ⟨_,hTO,fun v q=>nomatch q⟩
  ·rw [q];exact h1.obj
  ·rw [q];exact h2.obj
 keep:=fun i h h' st k=>by
  obtain ⟨hz,hTI,⟨x,y,hTO⟩,h1,h2⟩:=st
  exact ⟨k _ (by simp) _ hz,k _ (by simp) _ hTI,⟨x,y,k _ (by simp) _ hTO⟩,h1.at_ fun o q=>k N (by simp) o q,h2.at_ fun o q=>k (N + 1) (by simp) o q⟩
 item:=by
  intro X hP hw hK hc i pins s σ H E I hf st hg
  subst hP hw hK
  obtain ⟨hz,hTI,⟨x0,y0,hTO⟩,h1,h2⟩:=st
  obtain ⟨xs,ys,x,y,hqx,hqy,hx,hy⟩:=hg
  obtain ⟨its,rv,p⟩:=b3i I t1 hqx
  obtain ⟨its2,rv2,p2⟩:=b3i I t2 hqy
  obtain ⟨u,hu,ru⟩:=rv.get hx
  obtain ⟨u2,hu2,ru2⟩:=rv2.get hy
  have S:=c1C (b07 la) (b07 lb)
  have n1:i < its.length:=(List.getElem?_eq_some_iff.mp hu).1
  have n2:i < its2.length:=(List.getElem?_eq_some_iff.mp hu2).1
  have hzl:N + 4 < s.heap.objs.size:=Heap.lt_size hz
  refine wpAny_pyNext_zipD2_item (i:=0) S (a6M (prog:=X.prog) (w:=X.w) (A:=X.A.in1) t1 (I.ok.hd hc) N a (b07 la N (by simp)).symm its.toArray i) (a6M (prog:=X.prog) (w:=X.w) (A:=X.A.in1) t2 (I.ok.hd hc) (N + 1) b (b07 lb (N + 1) (by simp)).symm its2.toArray i) hz hTI hTO ⟨h1,p⟩ ⟨h2,p2⟩ (by rw [List.size_toArray];omega) (by rw [List.size_toArray];omega) fun v1 v2 h' tk p1 p2 z' TO' s1 s2 hT hsz hk=>?_
  have e1:v1=u:=by
   have p1:its.toArray[i + 0]?=some v1:=p1
   rw [Nat.add_zero,List.getElem?_toArray,hu] at p1
   exact (Option.some.inj p1).symm
  have e2:v2=u2:=by
   have p2:its2.toArray[i + 0]?=some v2:=p2
   rw [Nat.add_zero,List.getElem?_toArray,hu2] at p2
   exact (Option.some.inj p2).symm
  subst e1 e2
  refine ⟨_,rfl,wpAny_letOwnedTupleGo_zip (s:={ s with heap:=h',toks:=tk }) z' fun h'' z'' sb=>?_⟩
  have hT2:h''.get? s.heap.objs.size=some { cls:=.type "tuple",data:=.seq #[v1,v2] }:=(sb.2 _ (Nat.ne_of_gt hzl)).trans hT
  have new:ObjOk X.prog X.w (upd H s.heap.objs.size (.tup [x,y])) h'' s.heap.objs.size (.tup [x,y]) :=
   ⟨by show 2≤sizeLine;decide,[v1,v2],.cons ru (.cons ru2 .nil),⟨_,hT2,rfl,_,rfl⟩⟩
  have I1:Inv X pins σ (upd H s.heap.objs.size (.tup [x,y])) { s with heap:=h'',toks:=tk } :=
   I.turnedNew (t':=tk) (ch:=[N + 4,N + 2,N + 3,N,N + 1]) (fun c o hb q=>(sb.2 c (fun q'=>hb (by simp [q']))).trans (hk c o (fun q'=>hb (by simp [q'])) (fun q'=>hb (by simp [q'])) (fun q'=>hb (by simp [q'])) (fun q'=>hb (by simp [q'])) q)) hf (Nat.le_refl _) new
  refine ⟨.ref s.heap.objs.size,_,I1,rfl,⟨_,x,y,rfl,I.hok.fresh (Nat.le_refl _),rfl,fun l hl=>by rw [c1b I hl hqx];exact hx,fun l hl=>by rw [c1b I hl hqy];exact hy⟩,⟨z'',?_,⟨v1,v2,?_⟩,?_,?_⟩,fun c hcm=>?_⟩
  ·exact (sb.2 _ S.TIz).trans (hk _ _ S.TIz S.TITO S.TIi1 S.TIi2 hTI)
  ·exact (sb.2 _ S.TOz).trans TO'
  ·exact ItB.at_ s1.1 fun o q=>(sb.2 _ S.zi1.symm).trans q
  ·exact ItB.at_ s2.1 fun o q=>(sb.2 _ S.zi2.symm).trans q
  ·have hlt:c < s.heap.objs.size:=by
    have e':c=N + 4∨c=N + 2∨c=N + 3∨c=N∨c=N + 1:=by simpa using hcm
    rcases e' with q | q | q | q | q
    ·rw [q];exact hzl
    ·rw [q];exact Heap.lt_size hTI
    ·rw [q];exact Heap.lt_size hTO
    ·rw [q];obtain ⟨_,e1,_⟩:=h1.obj;exact Heap.lt_size e1
    ·rw [q];obtain ⟨_,e2,_⟩:=h2.obj;exact Heap.lt_size e2
   rw [upd_ne (Nat.ne_of_lt hlt)]
   exact (hf c hcm).1
 done:=by
  intro X hP hw hK hc i pins s σ H E I hf st hg
  subst hP hw hK
  obtain ⟨hz,hTI,⟨x0,y0,hTO⟩,h1,h2⟩:=st
  obtain ⟨xs,ys,hqx,hqy,hend⟩:=hg
  obtain ⟨its,rv,p⟩:=b3i I t1 hqx
  obtain ⟨its2,rv2,p2⟩:=b3i I t2 hqy
  have l1:=rv.length
  have l2:=rv2.length
  have S:=c1C (b07 la) (b07 lb)
  refine wpAny_pyNext_zipD2_end (i:=0) S (a6M (prog:=X.prog) (w:=X.w) (A:=X.A.in1) t1 (I.ok.hd hc) N a (b07 la N (by simp)).symm its.toArray i) (a6M (prog:=X.prog) (w:=X.w) (A:=X.A.in1) t2 (I.ok.hd hc) (N + 1) b (b07 lb (N + 1) (by simp)).symm its2.toArray i) hz hTI hTO ⟨h1,p⟩ ⟨h2,p2⟩ (Nat.zero_le _) (Nat.zero_le _) (by rw [List.size_toArray,List.size_toArray];omega) fun h' tk hk=>⟨rfl,I.turnedL (t':=tk) (ch:=[N + 4,N + 2,N + 3,N,N + 1]) (fun c o hb q =>
   hk c o (fun q'=>hb (by simp [q'])) (fun q'=>hb (by simp [q'])) (fun q'=>hb (by simp [q'])) (fun q'=>hb (by simp [q'])) q) hf⟩
 self:=fun A i s Q E st h=>wpAny_pyIter_zip st.1 h
def b8R (K:zbj) (t1 t2:Bool) (ta:TA):TI:=fun σ H R=>ta σ H fun vs H1=>∃ a b xs ys,vs=[.ref a,.ref b]∧SqB K t1 H1 a xs∧SqB K t2 H1 b ys∧R (b7x K t1 a t2 b) H1
theorem b2H {X:Cx} {e e2:Expr} {ta:TA} {p pos tpos:Pos} {elts:List Expr} {kk:Nat} (t1 t2:Bool) (hg:Gl X "zip") (hm:X.mg "zip" = none) (ha:PA X [e,e2] ta)
  (hs:starEach [e,e2] X.env=(false,eval e X.env) :: starEach [e2] X.env) (hpl:(backTo pos (starEach [e2] X.env)).any (·.1)=false) :
  PI X (.Tuple elts kk tpos) (.Call (.Name "zip" p) [e,e2] [] pos) (b8R X.K t1 t2 ta):=by
 refine ⟨fun pins s σ H R I h=>?_⟩
 refine Call_ (ld_blt I hg hm PyProof.Rows.boot_zip (PyProof.Rows.callWith_type1 (thn (ha.run pos pins s σ H _ I h) fun us s1 ⟨vs,H1,I1,r1,q1⟩=>?_) hs hpl))
 obtain ⟨a,b,xs,ys,ex,hqx,hqy,q⟩:=q1
 subst ex
 cases r1 with
 | cons r rr =>
  cases rr with
  | cons r' rr =>
   cases rr
   cases r
   cases r'
   obtain ⟨its,rv,p1⟩:=b3i I1 t1 hqx
   obtain ⟨its2,rv2,p2⟩:=b3i I1 t2 hqy
   refine zip_begins2 (c04 t1 a its.toArray) (c04 t2 b its2.toArray) p1 p2 fun h' hz hTI hTO h1 h2 hsz hk=>wpAny_pyIter_zip hz ?_
   have I2:Inv X pins σ H1 { s1 with heap:=h' }:=I1.kept (t':=s1.toks) hk
   refine ⟨s1.heap.objs.size + 4,[s1.heap.objs.size + 4,s1.heap.objs.size + 2,s1.heap.objs.size + 3,s1.heap.objs.size,s1.heap.objs.size + 1],_,_,H1,rfl,I2,a9D t1 t2 (ltB p1) (ltB p2),⟨hz,hTI,⟨_,_,hTO⟩,c1c h1,c1c h2⟩,fun c hcm=>?_,q⟩
   have e':c=s1.heap.objs.size + 4∨c=s1.heap.objs.size + 2∨c=s1.heap.objs.size + 3∨c=s1.heap.objs.size∨c=s1.heap.objs.size + 1:=by simpa using hcm
   have hle:s1.heap.objs.size≤c:=by
    rcases e' with z | z | z | z | z
    ·rw [z];exact Nat.le_add_right _ _
    ·rw [z];exact Nat.le_add_right _ _
    ·rw [z];exact Nat.le_add_right _ _
    ·rw [z];exact Nat.le_refl _
    ·rw [z];exact Nat.le_add_right _ _
   exact I1.fpOk hle (I1.hok.fresh hle)
end Sv
namespace Sv
open PySem PySem.Spec PyProof.Rows L2
open L2H (RoomH)
abbrev XK':=Addr→List (Str × D)→SS→Prop
abbrev XD':=Addr→List (Str × D)→DS→SS→Prop
abbrev TR:=Option (Addr × Obj)→List D→SS→DK→XK'→Prop
structure SE where
 nx:DS→SS→Prop
 rt:DK
 bk:DS→SS→Prop
 ct:DS→SS→Prop
def XDk (g:Gd) (S:SS) (H:Hp) (d:Option Addr) (fs:List (Str × D)):Prop:=(d=none∧fs=[])∨∃ dd ws,d=some dd∧S dd=none∧H dd=some (.xd ws)∧a1Q g S H fs ws
def b6B (g:Gd) (S:SS) (H:Hp) (Y:XK') (E:XK):Prop:=∀ C fs S' d H',Y C fs S'→a0d S H S' H'→CellsOk g S' H'→XDk g S' H' d fs→E (.ref C) d H'
def spD (g:Gd) (T:TR):SpM:=fun m vs H Q E=>∃ ds S K Y,CellsOk g S H∧a0e g S H ds vs∧T m ds S K Y∧Res g S H K Q∧b6B g S H Y E
def a5P (g:Gd) (S:SS) (H:Hp) (Y:XD') (W:WX):Prop:=∀ C fs δ' S' d σ' H',Y C fs δ' S'→a0d S H S' H'→Rel g S' H' δ' σ'→XDk g S' H' d fs→W (.ref C) d σ' H'
structure b3u (g:Gd) (S:SS) (H:Hp) (F:SE) (D:Ends):Prop where
 nx:∀ δ' S' σ' H',F.nx δ' S'→a0d S H S' H'→Rel g S' H' δ' σ'→D.nx σ' H'
 rt:Res g S H F.rt D.rt
 bk:∀ δ' S' σ' H',F.bk δ' S'→a0d S H S' H'→Rel g S' H' δ' σ'→D.bk σ' H'
 ct:∀ δ' S' σ' H',F.ct δ' S'→a0d S H S' H'→Rel g S' H' δ' σ'→D.ct σ' H'
structure a71 (g:Gd) (S1:SS) (H1:Hp) (J:It) (ds:List D) (ok:SS→Prop):Prop where
 go:∀ i S H,i < ds.length→a0d S1 H1 S H→CellsOk g S H→ok S→J.go i H
 yl:∀ i S H x H' d,ds[i]?=some d→a0d S1 H1 S H→CellsOk g S H→ok S→J.yld i H x H'→a0d S H S H'∧CellsOk g S H'∧Rep g S H' d x
 st:∀ i S H,ds.length≤i→a0d S1 H1 S H→CellsOk g S H→ok S→J.stop i H
abbrev RdE:=DS→SS→XD'→DK→Prop
abbrev RdT:=DS→SS→XD'→(Bool→SS→Prop)→Prop
abbrev RdL:=DS→SS→XD'→(List D→SS→Prop)→Prop
abbrev RdI:=DS→SS→XD'→(List D→(SS→Prop)→SS→Prop)→Prop
abbrev RdS:=DS→SS→XD'→SE→Prop
section
variable (g:Gd) (W:WX)
def LE (t:RdE):TE:=fun σ H Q=>∃ δ S Y K,Rel g S H δ σ∧t δ S Y K∧Res g S H K Q∧a5P g S H Y W
def LT (t:RdT):TT:=fun σ H Q=>∃ δ S Y K,Rel g S H δ σ∧t δ S Y K∧(∀ b S' H',K b S'→a0d S H S' H'→CellsOk g S' H'→Q b H')∧a5P g S H Y W
def LA (t:RdL):TA:=fun σ H Q=>∃ δ S Y K,Rel g S H δ σ∧t δ S Y K∧(∀ ds S' vs H',K ds S'→a0d S H S' H'→CellsOk g S' H'→a0e g S' H' ds vs→Q vs H')∧a5P g S H Y W
def LI (t:RdI):TI:=fun σ H R=>∃ δ S Y K,Rel g S H δ σ∧t δ S Y K∧(∀ ds ok S' H' J,K ds ok S'→a0d S H S' H'→CellsOk g S' H'→a71 g S' H' J ds ok→R J H')∧a5P g S H Y W
def LS (t:RdS):TS:=fun D σ H=>∃ δ S Y F,Rel g S H δ σ∧t δ S Y F∧b3u g S H F D∧a5P g S H Y W
end
section
variable {g:Gd} {W:WX} {S S1 S':SS} {H H1 H':Hp} {δ:DS} {σ:L2.St}
theorem Rel.mono (P:a0d S H S' H') (c:CellsOk g S' H') (h:Rel g S H δ σ):Rel g S' H' δ σ:=⟨h.sl.mono P,c⟩
theorem XDk.mono {d:Option Addr} {fs:List (Str × D)} (P:a0d S H S' H') (h:XDk g S H d fs):XDk g S' H' d fs:=by
 rcases h with h | ⟨dd,ws,e,n,q,r⟩
 ·exact .inl h
 ·exact .inr ⟨dd,ws,e,P.none_of n q,P.kp _ _ n q,r.mono P⟩
theorem Res.mono {K:DK} {Q:VK} (P:a0d S H S1 H1) (h:Res g S H K Q):Res g S1 H1 K Q:=fun d S' v H' k p c r=>h d S' v H' k (P.trans p) c r
theorem b6B.mono {Y:XK'} {E:XK} (P:a0d S H S1 H1) (h:b6B g S H Y E):b6B g S1 H1 Y E:=fun C fs S' d H' y p c x=>h C fs S' d H' y (P.trans p) c x
theorem a5P.mono {Y:XD'} (P:a0d S H S1 H1) (h:a5P g S H Y W):a5P g S1 H1 Y W:=fun C fs δ' S' d σ' H' y p c x=>h C fs δ' S' d σ' H' y (P.trans p) c x
theorem b3u.mono {F:SE} {D:Ends} (P:a0d S H S1 H1) (h:b3u g S H F D):b3u g S1 H1 F D :=
 ⟨fun δ' S' σ' H' y p c=>h.nx δ' S' σ' H' y (P.trans p) c,h.rt.mono P,fun δ' S' σ' H' y p c=>h.bk δ' S' σ' H' y (P.trans p) c,fun δ' S' σ' H' y p c=>h.ct δ' S' σ' H' y (P.trans p) c⟩
end
section
variable {X:Cx} {e:Expr}
theorem PE.imp {t t':TE} (h:PE X e t) (w:∀ σ H Q,t' σ H Q→t σ H Q):PE X e t':=⟨fun pins s σ H Q I q=>h.run pins s σ H Q I (w σ H Q q)⟩
theorem PT.imp {t t':TT} (h:PT X e t) (w:∀ σ H Q,t' σ H Q→t σ H Q):PT X e t':=⟨fun pins s σ H Q I q=>h.run pins s σ H Q I (w σ H Q q)⟩
theorem PW.imp {t t':TT} (h:PW X e t) (w:∀ σ H Q,t' σ H Q→t σ H Q):PW X e t':=⟨fun whole pins s σ H Q I q=>h.run whole pins s σ H Q I (w σ H Q q)⟩
theorem PA.imp {es:List Expr} {t t':TA} (h:PA X es t) (w:∀ σ H Q,t' σ H Q→t σ H Q):PA X es t':=⟨fun pos pins s σ H Q I q=>h.run pos pins s σ H Q I (w σ H Q q)⟩
theorem PI.imp {tg:Expr} {t t':TI} (h:PI X tg e t) (w:∀ σ H Q,t' σ H Q→t σ H Q):PI X tg e t':=⟨fun pins s σ H Q I q=>h.run pins s σ H Q I (w σ H Q q)⟩
theorem PS.imp {st:Stmt} {t t':TS} (h:PS X st t) (w:∀ D σ H,t' D σ H→t D σ H):PS X st t':=⟨fun pins s σ H D I q=>h.run pins s σ H D I (w D σ H q)⟩
theorem PSs.imp {st:List Stmt} {t t':TS} (h:PSs X st t) (w:∀ D σ H,t' D σ H→t D σ H):PSs X st t':=⟨fun pins s σ H D I q=>h.run pins s σ H D I (w D σ H q)⟩
end
inductive RC where
 | non | bl (b:Bool) | int (i:Int) | str (x:Str)
def RC.d:RC→D
 | .non=>.non | .bl b=>.bl b | .int i=>.int i | .str x=>.str x
inductive Bn where
 | len | abs | max | min | rpr | int | tup | lst (cell:Bool) | srt (cell:Bool) | dic (cell:Bool) | dcp (cell:Bool) | all | sum | str | lsk (cell:Bool) | lss (cell:Bool) | mnl | srl (cell:Bool) | srp (cell:Bool)
def Bn.nm:Bn→Str
 | .len => "len" | .abs => "abs" | .max => "max" | .min => "min" | .rpr => "repr" | .int => "int" | .tup => "tuple" | .lst _ => "list" | .srt _ => "sorted" | .dic _ => "dict" | .dcp _ => "dict" | .all => "all" | .sum => "sum" | .str => "str" | .lsk _ => "list" | .lss _ => "list" | .mnl => "min" | .srl _ => "sorted" | .srp _ => "sorted"
def Bn.den:Bn→List D→SS→DK→Prop
 | .len=>b1Z | .abs=>b7C | .max=>maxD | .min=>minD | .rpr=>b2P | .int=>intD | .tup=>a9C | .lst cell=>b2d cell | .srt cell=>a6u cell | .dic cell=>b1z cell | .dcp cell=>a8j cell | .all=>b74 | .sum=>c0M | .str=>c0L | .lsk cell=>a8R cell | .lss cell=>a8S cell | .mnl=>b2h | .srl cell=>a4O cell | .srp cell=>a4P cell
def Bn.needs (m0:Option (Addr × Obj)):Bn→Prop
 | .len=>True | .abs=>True | .max=>m0=none | .min=>m0=none | .rpr=>True | .int=>True | .tup=>True | .lst _=>True | .srt _=>m0=none | .dic _=>True | .dcp _=>m0=none | .all=>m0=none | .sum=>m0=none | .str=>True | .lsk _=>m0=none | .lss _=>m0=none | .mnl=>m0=none | .srl _=>m0=none | .srp _=>m0=none
inductive Mn where
 | join | upper | app | ins | pop | clr | cnt | dpop | upd | dget | dset | dpop2 | idx | spl | rem | ext
def Mn.nm:Mn→Str
 | .join => "join" | .upper => "upper" | .app => "append" | .ins => "insert" | .pop => "pop" | .clr => "clear" | .cnt => "count" | .dpop => "pop" | .upd => "update" | .dget => "get" | .dset => "setdefault" | .dpop2 => "pop" | .idx => "index" | .spl => "split" | .rem => "remove" | .ext => "extend"
def Mn.den:Mn→D→List D→SS→DK→Prop
 | .join=>b1W | .upper=>a9E | .app=>b75 | .ins=>b8W | .pop=>b9i | .clr=>a8h | .cnt=>b8o | .dpop=>b1B | .upd=>c0Y | .dget=>b1x | .dset=>b1D | .dpop2=>a8k | .idx=>b8V | .spl=>a9w | .rem=>b9m | .ext=>b8N
def a5k (x:D):Prop:=∃ z,x=.str z
def a1U (x:D) (S:SS):Prop:=∃ ds,vw S x=.lst ds
def a4c (x:D) (S:SS):Prop:=∃ p kvs,x=.obj p∧S p=some (.dic kvs)
def Mn.rc:Mn→D→SS→Prop
 | .join=>fun x _=>a5k x | .upper=>fun x _=>a5k x
 | .app=>a1U | .ins=>a1U | .pop=>a1U | .clr=>a1U | .cnt=>a1U | .dpop=>a4c | .upd=>a4c | .dget=>b00 | .dset=>a4c | .dpop2=>a4c | .idx=>a1U | .spl=>fun x _=>a5k x | .rem=>a1U | .ext=>a1U
inductive En where
 | fn (x:Str) | mt (C m:Str)
 deriving DecidableEq
inductive Cn where
 | ty (n:String) | own (j:Nat)
mutual
inductive RE where
 | var (i:Nat) | con (c:RC) | glb (j:Nat)
 | bin (op:Operator) (a b:RE) | neg (a:RE) | nt (a:RE)
 | and (es:RL) | or (es:RL) | ife (c a b:RE)
 | cmp (op:CmpOp) (a b:RE) | chn (o1 o2:CmpOp) (a b c:RE)
 | lst (cell:Bool) (es:RL) | tup (es:RL)
 | ix (a b:RE) | sl (a:RE) (lo hi:RO) | fld (a:RE) (f:Str)
 | call (j:Nat) (es:RL) | bi (b:Bn) (es:RL) | isi (a:RE) (c:Cn)
 | lc (cell:Bool) (elt:RE) (tg:List Nat) (one:Bool) (it:RI) (c:RO) (own:List (Str × Nat))
 | dct (cell:Bool) (ps:RQ) | mth (b:Mn) (a:RE) (es:RL) | om (j:Nat) (m:Str) (a:RE) (es:RL) | mk (j:Nat) (es:RL)
 | lck (e:RE) | fz (e:RE) | vls (cell:Bool) (a:RE) | ofs (srt:Bool) (a:RE) | rev (cell:Bool) (a:RE) | sl2 (k:Nat) (a:RE) | kin (neg:Bool) (j:Nat) (a:RE) | kix (j:Nat) (a:RE) | adc (a b:RE) | slc (a:RE) (lo hi:RO) | ofi (a:RE) | fzt (k:Nat) (e:RE) | nev
inductive RO where
 | nn | ss (e:RE)
inductive RL where
 | nil | cons (e:RE) (es:RL)
inductive RQ where
 | nil | cons (k v:RE) (r:RQ)
inductive RI where
 | lst (e:RE) | tup (e:RE) | rng1 (a:RE) | rng2 (a b:RE) | str (e:RE) | keys (e:RE) | enum (e:RE) | items (e:RE) | enumt (e:RE) | zip (t1 t2:Bool) (a b:RE)
end
def RI.two:RI→Bool
 | .enum _=>true | .items _=>true | .enumt _=>true | .zip _ _ _ _=>true | _=>false
structure SN where
 N:List Str
 fns:List En
 cls:List Str
 gvs:List Str
structure Gm extends Gd where
 m0:Option (Addr × Obj)
 fn:Bool→Nat→Option TR
 gv:Nat→D
 cl:Nat→Addr
 mc:Nat→Addr
 kd:Nat→Option (List (Key × D))
def Cn.val (G:Gm):Cn→Value
 | .ty n=>.type n | .own j=>.ref (G.cl j)
def tyD (S:SS):D→Option Value
 | .non=>some (.type "NoneType") | .bl _=>some (.type "bool") | .int _=>some (.type "int") | .str _=>some (.type "str")
 | .lst _=>some (.type "list") | .tup _=>some (.type "tuple") | .dic _=>some (.type "dict")
 | .obj a=>match S a with
  | some (.lst _)=>some (.type "list") | some (.dic _)=>some (.type "dict") | some (.loc _)=>some (.type "dict") | some (.ins C _)=>some (.ref C) | none=>none
 | .exc _ _ C _=>some (.ref C)
 | .err _ C _ _=>some (.ref C)
def a0x (z:Str):List D:=z.cps.toList.map fun c=>.str ⟨#[c]⟩
def a1x (ds:List D):List D:=ds.zipIdx.map fun p=>.tup [.int (p.2:Nat),p.1]
def a8K:List (D × D)→Option (List (Key × D))
 | []=>some []
 | (k,v) :: r=>match keyD k,a8K r with
  | some key,some q=>some ((key,v) :: q)
  | _,_=>none
def sqv:Bool→List D→D
 | true,ds=>.tup ds
 | false,ds=>.lst ds
def a1S:List D→List D→List D
 | x :: xs,y :: ys=>.tup [x,y] :: a1S xs ys
 | _,_=>[]
def a6s (lo:Int) (n:Nat):List D:=(List.range n).map fun (i:Nat)=>.int (lo + (i:Int))
abbrev b7u:zbj→Addr→Prop:=C8.InsC
abbrev a7R:zbj→Addr→Prop:=ExcC
def a4S (G:Gm) (S:SS):D→Prop
 | .obj a=>∀ C fs,S a=some (.ins C fs)→b7u G.K C
 | .exc y oe C _=>G.m0=some (y,oe)∧a7R G.K C
 | .err _ C _ _=>a7R G.K C
 | _=>True
def a8u (G:Gm) (f:Str) (x:D) (S:SS) (K:DK):Prop:=match x with
 | .obj a=>∃ C fs d,S a=some (.ins C fs)∧Cls G.K C∧NoAttr G.K C f∧fs.lookup f=some d∧K d S
 | .exc y oe C fs=>G.m0=some (y,oe)∧a7R G.K C∧NoAttr G.K C f∧∃ d,fs.lookup f=some d∧K d S
 | .err _ C fs _=>a7R G.K C∧NoAttr G.K C f∧∃ d,fs.lookup f=some d∧K d S
 | _=>False
def omD (G:Gm) (j:Nat) (m:Str) (x:D) (S:SS) (p:Addr):Prop:=x=.obj p∧∃ fs,S p=some (.ins (G.mc j) fs)∧fs.lookup m=none
def noX:XD':=fun _ _ _ _=>False
def a3I:DS→List Nat→List D→DS
 | δ,i :: is,d :: ds=>a3I (δ.set i (some d)) is ds
 | δ,_,_=>δ
def a1w (tg:List Nat) (one:Bool) (d:D) (δ:DS) (S:SS) (Q:DS→SS→Prop):Prop :=
 if one=true then (match tg with
  | [i]=>Q (δ.set i (some d)) S
  | _=>False)
 else ∃ ds,vw S d=.tup ds∧ds.length=tg.length∧Q (a3I δ tg ds) S
def a6C (δ:DS):List Nat→DS
 | []=>δ
 | v :: vs=>(a6C δ vs).set v none
mutual
def den (G:Gm):RE→RdE
 | .var i=>fun δ S _ K=>match δ[i]? with
  | some (some d)=>K d S
  | _=>False
 | .con c=>fun _ S _ K=>K c.d S
 | .glb j=>fun _ S _ K=>K (G.gv j) S
 | .bin op a b=>fun δ S Y K=>den G a δ S Y fun x S1=>den G b δ S1 Y fun y S2=>opD op x y S2 K
 | .neg a=>fun δ S Y K=>den G a δ S Y fun x S1=>∃ i,x=.int i∧K (.int (-i)) S1
 | .nt a=>fun δ S Y K=>den G a δ S Y fun x S1=>a1c x S1 fun b=>K (.bl (!b)) S1
 | .and es=>a0Q G es
 | .or es=>a1t G es
 | .ife c a b=>fun δ S Y K=>a0o G c δ S Y fun k S1=>if k=true then den G a δ S1 Y K else den G b δ S1 Y K
 | .cmp op a b=>fun δ S Y K=>den G a δ S Y fun x S1=>den G b δ S1 Y fun y S2=>a0G op x y S2 K
 | .chn o1 o2 a b c=>fun δ S Y K=>den G a δ S Y fun x S1=>den G b δ S1 Y fun y S2=>a0G o1 x y S2 fun z S3=>∃ k,z=.bl k ∧
   if k=true then den G c δ S3 Y fun w S4=>a0G o2 y w S4 K else K (.bl false) S3
 | .lst cell es=>fun δ S Y K=>a0p G es δ S Y fun ds S1=>ds.length≤sizeLine∧if cell=true then ∀ p,S1 p=none→K (.obj p) (S1.set p (.lst ds)) else K (.lst ds) S1
 | .tup es=>fun δ S Y K=>a0p G es δ S Y fun ds S1=>ds.length≤sizeLine∧K (.tup ds) S1
 | .ix a b=>fun δ S Y K=>den G a δ S Y fun x S1=>den G b δ S1 Y fun y S2=>ixD x y S2 K
 | .sl a lo hi=>fun δ S Y K=>den G a δ S Y fun x S1=>a2o G lo δ S1 Y fun l S2=>a2o G hi δ S2 Y fun u S3=>slD x l u S3 K
 | .fld a f=>fun δ S Y K=>den G a δ S Y fun x S1=>a8u G f x S1 K
 | .call j es=>fun δ S Y K=>∃ T,G.fn G.m0.isSome j=some T∧a0p G es δ S Y fun ds S1=>T G.m0 ds S1 K fun C fs S'=>Y C fs δ S'
 | .bi b es=>fun δ S Y K=>b.needs G.m0∧a0p G es δ S Y fun ds S1=>b.den ds S1 K
 | .isi a c=>fun δ S Y K=>den G a δ S Y fun x S1=>∃ t b,tyD S1 x=some t∧a4S G S1 x∧PySem.W.kitOne G.K t (c.val G)=some b∧K (.bl b) S1
 | .lc cell elt tg one it c own=>fun δ S Y K=>G.m0=none∧a0P G it δ S Y fun ds ok S1=>∀ p,S1 p=none→∃ Iv:Nat→SS→Prop,Iv 0 (S1.set p (.lst []))∧(∀ i S',Iv i S'→i≤ds.length→ok S') ∧
   (∀ i d S',ds[i]?=some d→Iv i S'→a1w tg one d (a6C δ (own.map (·.2))) S' fun δ2 S2=>a5R G c δ2 S2 noX fun b S3 =>
    if b=true then den G elt δ2 S3 noX fun y S4=>∃ acc,S4 p=some (.lst acc)∧acc.length < sizeLine∧Iv (i + 1) (S4.set p (.lst (acc ++ [y]))) else Iv (i + 1) S3) ∧
   (∀ S',Iv ds.length S'→∃ acc,S' p=some (.lst acc)∧if cell=true then K (.obj p) S' else K (.lst acc) (S'.del p))
 | .dct cell ps=>fun δ S Y K=>∀ p,S p=none→a4U G ps δ (S.set p (.dic [])) Y fun ks S2=>S2 p=some (.dic [])∧∃ kvs,a8K ks=some kvs∧kvs.length≤15∧if cell=true then K (.obj p) (S2.set p (.dic (a07 [] kvs))) else K (.dic (a07 [] kvs)) (S2.del p)
 | .mth b a es=>fun δ S Y K=>den G a δ S Y fun x S1=>b.rc x S1∧a0p G es δ S1 Y fun ds S2=>b.den x ds S2 K
 | .om j m a es=>fun δ S Y K=>∃ T,G.fn G.m0.isSome j=some T∧den G a δ S Y fun x S1=>∃ p,omD G j m x S1 p∧a0p G es δ S1 Y fun ds S2=>T G.m0 (.obj p :: ds) S2 K fun C fs S'=>Y C fs δ S'
 | .mk j es=>fun δ S Y K=>G.m0=none∧∃ T,G.fn false j=some T∧a0p G es δ S Y fun ds S1=>∀ p,S1 p=none→T none (.obj p :: ds) (S1.set p (.ins (G.mc j) [])) (fun d S'=>d=.non∧K (.obj p) S') fun C fs S'=>Y C fs δ S'
 | .lck e=>fun δ S Y K=>∃ a kvs,S a=some (.dic kvs)∧den G e δ (S.set a (.loc kvs)) Y fun d S'=>K d (S'.set a (.dic kvs))
 | .fz e=>fun δ S Y K=>den G e δ S Y fun d S1=>∃ a,d=.obj a∧((∃ ds,S1 a=some (.lst ds)∧K (.lst ds) (S1.del a))∨∃ kvs,S1 a=some (.dic kvs)∧K (.dic kvs) (S1.del a))
 | .fzt k e=>fun δ S Y K=>den G e δ S Y fun d S1=>∃ ds a l,d=.tup ds∧ds[k]?=some (.obj a)∧S1 a=some (.lst l)∧K (.tup (ds.set k (.lst l))) (S1.del a)
 | .ofs srt a=>fun δ S Y K=>G.m0=none∧den G a δ S Y fun x S1=>∃ zs:List Str,vw S1 x=.lst (zs.map D.str)∧(zs.length < 64∨((uniq zs).length < 64∧zs.length < 1000))∧if srt=true then ∃ cell,outL cell ((a0i (uniq zs)).map D.str) S1 K else K (.int ((uniq zs).length:Nat)) S1
 | .ofi a=>fun δ S Y K=>G.m0=none∧den G a δ S Y fun x S1=>∃ zs:List Int,vw S1 x=.lst (zs.map D.int)∧zs.length < 64∧∀ ns:List Int,ns.Pairwise (· < ·)→(∀ k,k∈ns↔k∈zs)→K (.lst (ns.map D.int)) S1
 | .vls cell a=>fun δ S Y K=>G.m0=none∧den G a δ S Y fun x S1=>∃ p kvs,x=.obj p∧S1 p=some (.dic kvs)∧outL cell (kvs.map (·.2)) S1 K
 | .rev cell a=>fun δ S Y K=>den G a δ S Y fun x S1=>∃ ds,vw S1 x=.lst ds∧outL cell ds.reverse S1 K
 | .sl2 k a=>fun δ S Y K=>den G a δ S Y fun x S1=>∃ ds,vw S1 x=.lst ds∧K (.lst (ev2 k ds)) S1
 | .kin neg j a=>fun δ S Y K=>∃ kvs,G.kd j=some kvs∧den G a δ S Y fun x S1=>∃ z,x=.str z∧K (.bl (neg ^^ (valD kvs (.inr z)).isSome)) S1
 | .kix j a=>fun δ S Y K=>∃ kvs,G.kd j=some kvs∧den G a δ S Y fun x S1=>∃ z d,x=.str z∧valD kvs (.inr z)=some d∧K d S1
 | .slc a lo hi=>fun δ S Y K=>den G a δ S Y fun x S1=>a2o G lo δ S1 Y fun l S2=>a2o G hi δ S2 Y fun u S3=>b3l x l u S3 K
 | .adc a b=>fun δ S Y K=>den G a δ S Y fun x S1=>den G b δ S1 Y fun y S2=>b1q x y S2 K
 | .nev=>fun _ _ _ _=>False
def a4U (G:Gm):RQ→DS→SS→XD'→(List (D × D)→SS→Prop)→Prop
 | .nil=>fun _ S _ K=>K [] S
 | .cons k v r=>fun δ S Y K=>den G k δ S Y fun x S1=>den G v δ S1 Y fun y S2=>a4U G r δ S2 Y fun ps S3=>K ((x,y) :: ps) S3
def a0p (G:Gm):RL→RdL
 | .nil=>fun _ S _ K=>K [] S
 | .cons e es=>fun δ S Y K=>den G e δ S Y fun d S1=>a0p G es δ S1 Y fun ds S2=>K (d :: ds) S2
def a0Q (G:Gm):RL→RdE
 | .nil=>fun _ _ _ _=>False
 | .cons e .nil=>den G e
 | .cons e (.cons f r)=>fun δ S Y K=>den G e δ S Y fun x S1=>a1c x S1 fun k=>if k=true then a0Q G (.cons f r) δ S1 Y K else K x S1
def a1t (G:Gm):RL→RdE
 | .nil=>fun _ _ _ _=>False
 | .cons e .nil=>den G e
 | .cons e (.cons f r)=>fun δ S Y K=>den G e δ S Y fun x S1=>a1c x S1 fun k=>if k=true then K x S1 else a1t G (.cons f r) δ S1 Y K
def a0o (G:Gm):RE→RdT
 | .nt a=>fun δ S Y K=>a0o G a δ S Y fun b S1=>K (!b) S1
 | .and es=>a0J G es
 | .or es=>a0W G es
 | .ife _ _ _=>fun _ _ _ _=>False
 | .cmp op a b=>fun δ S Y K=>den G a δ S Y fun x S1=>den G b δ S1 Y fun y S2=>a0G op x y S2 fun d S'=>∃ k,d=.bl k∧K k S'
 | .chn o1 o2 a b c=>fun δ S Y K=>den G a δ S Y fun x S1=>den G b δ S1 Y fun y S2=>a0G o1 x y S2 fun z S3=>∃ k,z=.bl k ∧
   if k=true then den G c δ S3 Y fun w S4=>a0G o2 y w S4 fun d S'=>∃ k,d=.bl k∧K k S' else ∃ k,D.bl false=.bl k∧K k S3
 | .var i=>fun δ S _ K=>match δ[i]? with
  | some (some d)=>a1c d S fun b=>K b S
  | _=>False
 | .con c=>fun _ S _ K=>a1c c.d S fun b=>K b S
 | .glb j=>fun _ S _ K=>a1c (G.gv j) S fun b=>K b S
 | .ix a b=>fun δ S Y K=>den G a δ S Y fun x S1=>den G b δ S1 Y fun y S2=>ixD x y S2 fun d S3=>a1c d S3 fun b=>K b S3
 | .fld a f=>fun δ S Y K=>den G a δ S Y fun x S1=>a8u G f x S1 fun d S3=>a1c d S3 fun b=>K b S3
 | .call j es=>fun δ S Y K=>∃ T,G.fn G.m0.isSome j=some T∧a0p G es δ S Y fun ds S1=>T G.m0 ds S1 (fun d S3=>a1c d S3 fun b=>K b S3) fun C fs S'=>Y C fs δ S'
 | .isi a c=>fun δ S Y K=>den G a δ S Y fun x S1=>∃ t b,tyD S1 x=some t∧a4S G S1 x∧PySem.W.kitOne G.K t (c.val G)=some b∧K b S1
 | .kin neg j a=>fun δ S Y K=>∃ kvs,G.kd j=some kvs∧den G a δ S Y fun x S1=>∃ z,x=.str z∧∃ k,D.bl (neg ^^ (valD kvs (.inr z)).isSome)=.bl k∧K k S1
 | .om j m a es=>fun δ S Y K=>∃ T,G.fn G.m0.isSome j=some T∧den G a δ S Y fun x S1=>∃ p,omD G j m x S1 p∧a0p G es δ S1 Y fun ds S2=>T G.m0 (.obj p :: ds) S2 (fun d S3=>a1c d S3 fun b=>K b S3) fun C fs S'=>Y C fs δ S'
 | .mth b a es=>fun δ S Y K=>den G a δ S Y fun x S1=>b.rc x S1∧a0p G es δ S1 Y fun ds S2=>b.den x ds S2 fun d S3=>a1c d S3 fun b=>K b S3
 | .bi b es=>fun δ S Y K=>b.needs G.m0∧a0p G es δ S Y fun ds S1=>b.den ds S1 fun d S3=>a1c d S3 fun b=>K b S3
 | _=>fun _ _ _ _=>False
def a0J (G:Gm):RL→RdT
 | .nil=>fun _ _ _ _=>False
 | .cons e .nil=>a0o G e
 | .cons e (.cons f r)=>fun δ S Y K=>a0o G e δ S Y fun k S1=>if k=true then a0J G (.cons f r) δ S1 Y K else K false S1
def a0W (G:Gm):RL→RdT
 | .nil=>fun _ _ _ _=>False
 | .cons e .nil=>a0o G e
 | .cons e (.cons f r)=>fun δ S Y K=>a0o G e δ S Y fun k S1=>if k=true then K true S1 else a0W G (.cons f r) δ S1 Y K
def a5R (G:Gm):RO→RdT
 | .nn=>fun _ S _ K=>K true S
 | .ss e=>a0o G e
def a2o (G:Gm):RO→DS→SS→XD'→(Option Int→SS→Prop)→Prop
 | .nn=>fun _ S _ K=>K none S
 | .ss e=>fun δ S Y K=>den G e δ S Y fun d S1=>∃ i,d=.int i∧K (some i) S1
def a0P (G:Gm):RI→RdI
 | .lst e=>fun δ S Y K=>den G e δ S Y fun d S1=>∃ ds,vw S1 d=.lst ds∧K ds (fun S'=>vw S' d=.lst ds) S1
 | .tup e=>fun δ S Y K=>den G e δ S Y fun d S1=>∃ ds,vw S1 d=.tup ds∧K ds (fun S'=>True) S1
 | .rng1 a=>fun δ S Y K=>den G a δ S Y fun d S1=>∃ j,d=.int j∧-(2 ^ 62)≤j∧j < 2 ^ 62∧K (a6s 0 j.toNat) (fun _=>True) S1
 | .rng2 a b=>fun δ S Y K=>den G a δ S Y fun d S1=>den G b δ S1 Y fun d2 S2=>∃ i j,d=.int i∧d2=.int j∧(-(2 ^ 62)≤i∧i < 2 ^ 62∧-(2 ^ 62)≤j∧j < 2 ^ 62)∧K (a6s i (j - i).toNat) (fun _=>True) S2
 | .str e=>fun δ S Y K=>den G e δ S Y fun d S1=>∃ z,d=.str z∧K (a0x z) (fun _=>True) S1
 | .keys e=>fun δ S Y K=>den G e δ S Y fun d S1=>∃ a kvs,d=.obj a∧S1 a=some (.loc kvs)∧K (kvs.map fun kv=>keyV kv.1) (fun _=>True) S1
 | .enumt e=>fun δ S Y K=>den G e δ S Y fun d S1=>∃ ds,d=.tup ds∧K (a1x ds) (fun _=>True) S1
 | .zip t1 t2 a b=>fun δ S Y K=>den G a δ S Y fun d S1=>den G b δ S1 Y fun d2 S2=>∃ xs ys,d=sqv t1 xs∧d2=sqv t2 ys∧K (a1S xs ys) (fun _=>True) S2
 | .enum e=>fun δ S Y K=>den G e δ S Y fun d S1=>∃ ds,vw S1 d=.lst ds∧K (a1x ds) (fun S'=>vw S' d=.lst ds) S1
 | .items e=>fun δ S Y K=>den G e δ S Y fun d S1=>∃ a kvs,d=.obj a∧S1 a=some (.loc kvs)∧K (kvs.map fun kv=>.tup [keyV kv.1,kv.2]) (fun _=>True) S1
end
def nmB (l:List Str) (i:Nat) (x:Str):Bool:=decide (l[i]?=some x) && decide ((x == ("__debug__" : Str))=false∧(x == ("__classdict__" : Str))=false)
def enB (l:List En) (i:Nat) (e:En):Bool:=decide (l[i]?=some e)
def fnB (l:List En) (i:Nat) (x:Str):Bool:=enB l i (.fn x) && decide ((x == ("__debug__" : Str))=false)
theorem a8v {l:List En} {i:Nat} {x:Str} (h:fnB l i x=true):l[i]?=some (.fn x)∧(x == ("__debug__" : Str))=false:=by
 unfold fnB enB at h
 rw [zak,zah,zah] at h
 exact h
def a3Z:List Str:=["len", "abs", "max", "min", "range", "isinstance", "repr", "list", "tuple", "dict", "sorted", "sum", "enumerate", "zip", "reversed", "str", "int", "bool", "set", "ValueError", "any", "all"]
def b0Q (sc:Scope) (x:Str):Bool:=match sc.names.lookup x with
 | some .local=>true | some .cell=>true | some .free=>true | _=>false
def a7T (sc:Scope) (x:Str):Bool:=match sc.names.lookup x with
 | some .local=>true | some .cell=>true | _=>false
def glB (sc:Scope) (x:Str):Bool:=match sc.names.lookup x with
 | some .globalImplicit=>true | _=>false
theorem a0E {l:List Str} {i:Nat} {x:Str} (h:nmB l i x=true):l[i]?=some x∧(x == ("__debug__" : Str))=false∧(x == ("__classdict__" : Str))=false:=by
 unfold nmB at h
 rw [zak,zah,zah] at h
 exact h
theorem a6z {sc:Scope} {x:Str} (h:b0Q sc x=true):Vis sc x:=by
 unfold b0Q at h
 split at h <;> first | exact .inl (by assumption) | exact .inr (.inl (by assumption)) | exact .inr (.inr (by assumption)) | cases h
theorem a8U {sc:Scope} {x:Str} (h:a7T sc x=true):Loc sc x:=by
 unfold a7T at h
 split at h <;> first | exact .inl (by assumption) | exact .inr (by assumption) | cases h
theorem a8x {sc:Scope} {x:Str} (h:glB sc x=true):sc.names.lookup x=some .globalImplicit:=by
 unfold glB at h
 split at h <;> first | assumption | cases h
def a0t:Expr→Bool
 | .Starred _ _=>false | _=>true
def a7U:Expr→Bool
 | .Call (.Name x _) [] [] _=>decide (x≠("super" : Str)) | _=>true
def a2v:Expr→Bool
 | .Slice _ _ _ _=>false | _=>true
def a1R:Expr→Bool
 | .Set _ _ _=>false | _=>true
def plainT:Expr→Bool
 | .UnaryOp .Not _ _=>false | .BoolOp _ _ _=>false | .IfExp _ _ _ _=>false | .Compare _ _ _ _=>false | _=>true
theorem a0g {e:Expr} {es:List Expr} {env:Env} (h:a0t e=true):starEach (e :: es) env=(false,eval e env) :: starEach es env:=by
 cases e <;> first | rfl | cases h
theorem a5v {e:Expr} (h:a2v e=true) (o i:Value):subscripted e false o i=operate [o,i] (getItem o i):=by
 cases e <;> first | rfl | cases h
theorem a1L {e:Expr} (h:a1R e=true) (op:CmpOp):behindInMarks op e=false:=by
 cases e <;> first | rfl | cases h
theorem plainT_ok {e:Expr} {env:Env} (h:plainT e=true) (whole:Sem Value):isTrue e env whole=(do let v ← whole;standAt e.pos;holding [v] (truthy v)):=by
 cases e <;> first | rfl | (cases h;done) | (rename_i op _ _;cases op <;> first | rfl | cases h)
theorem a3e {e:Expr} {env:Env} (h:a1R e=true) (x:Value):foldedSetIterable e env x=pure x:=by
 cases e <;> first | rfl | cases h
theorem a2L {e:Expr} {f:Str} {env:Env} {whole:Sem Value} (h:a7U e=true):attributeBase e f env whole=whole:=by
 unfold attributeBase
 split
 ·rename_i id _ _
  have q:(id != ("super" : Str))=true:=by
   have h':decide (id≠("super" : Str))=true:=h
   simpa using h'
  rw [q]
  simp
 ·rfl
theorem a0T:∀ {es:List Expr} {env:Env} {pos:Pos},es.all a0t=true→(backTo pos (starEach es env)).any (·.1)=false
 | [],_,_,_=>rfl
 | e :: es,env,pos,h=>by
  rw [List.all_cons,zak] at h
  rw [a0g h.1]
  have q:=a0T (env:=env) (pos:=pos) h.2
  simpa [backTo] using q
def a8g (n:SN) (sc:Scope):List Nat→List Expr→Bool
 | [],xs=>xs.isEmpty
 | i :: is,xs=>match xs with
  | .Name y _ :: xs=>nmB n.N i y && a7T sc y && a8g n sc is xs
  | _=>false
def a0U (n:SN) (sc:Scope) (tg:List Nat) (one:Bool) (x:Expr):Bool :=
 if one=true then (match tg,x with
  | [i],.Name y _=>nmB n.N i y && a7T sc y
  | _,_=>false)
 else (match x with
  | .Tuple xs _ _=>a8g n sc tg xs
  | _=>false)
def mtB (l:List En) (j:Nat) (m:Str):Bool:=match l[j]? with
 | some (.mt _ m')=>decide (m'=m)
 | _=>false
theorem b5b {l:List En} {j:Nat} {m:Str} (h:mtB l j m=true):∃ C,l[j]?=some (.mt C m):=by
 unfold mtB at h
 split at h
 ·rename_i C m' e
  cases of_decide_eq_true h
  exact ⟨C,e⟩
 ·cases h
mutual
def chk (n:SN) (sc:Scope):RE→Expr→Bool
 | .var i,x=>match x with
  | .Name y _=>nmB n.N i y && b0Q sc y
  | _=>false
 | .con c,x=>match c,x with
  | .non,.Constant .none _ _=>true
  | .bl b,.Constant (.bool b') _ _=>b == b'
  | .int i,.Constant (.int i') _ _=>decide (i=i')
  | .str s,.Constant (.str s') _ _=>decide (s=s')
  | _,_=>false
 | .glb j,x=>match x with
  | .Name y _=>nmB n.gvs j y && glB sc y
  | _=>false
 | .bin op a b,x=>match x with
  | .BinOp l o r _=>decide (o=op) && (chk n sc a l && chk n sc b r)
  | _=>false
 | .neg a,x=>match x with
  | .UnaryOp .USub l _=>chk n sc a l
  | _=>false
 | .nt a,x=>match x with
  | .UnaryOp .Not l _=>chk n sc a l
  | _=>false
 | .and es,x=>match x with
  | .BoolOp .And xs _=>a5Q n sc es xs
  | _=>false
 | .or es,x=>match x with
  | .BoolOp .Or xs _=>a5Q n sc es xs
  | _=>false
 | .ife c a b,x=>match x with
  | .IfExp t l r _=>chk n sc c t && (chk n sc a l && chk n sc b r)
  | _=>false
 | .cmp op a b,x=>match x with
  | .Compare l [o] [r] _=>decide (o=op) && a1R r && (chk n sc a l && chk n sc b r)
  | _=>false
 | .chn o1 o2 a b c,x=>match x with
  | .Compare l [o,o'] [r,t] _=>decide (o=o1) && decide (o'=o2) && a1R t && (chk n sc a l && (chk n sc b r && chk n sc c t))
  | _=>false
 | .lst _ es,x=>match x with
  | .List xs _=>a5Q n sc es xs
  | _=>false
 | .tup es,x=>match x with
  | .Tuple xs _ _=>a5Q n sc es xs
  | _=>false
 | .ix a b,x=>match x with
  | .Subscript l r _=>a2v r && (chk n sc a l && chk n sc b r)
  | _=>false
 | .slc a lo hi,x=>match x with
  | .Subscript l (.Slice p q none _) _=>chk n sc a l && (b1t n sc lo p && b1t n sc hi q)
  | _=>false
 | .sl a lo hi,x=>match x with
  | .Subscript l (.Slice p q none _) _=>chk n sc a l && (b1t n sc lo p && b1t n sc hi q)
  | _=>false
 | .fld a f,x=>match x with
  | .Attribute l f' _=>decide (f'=f) && a7U l && chk n sc a l
  | _=>false
 | .call j es,x=>match x with
  | .Call (.Name y _) xs [] _=>fnB n.fns j y && glB sc y && a5Q n sc es xs
  | _=>false
 | .mth b a es,x=>match x with
  | .Call (.Attribute l m ap) xs [] p=>decide (m=b.nm) && a7U l && (ap.endLine == p.line) && decide (xs.length < 30) && chk n sc a l && a5Q n sc es xs
  | _=>false
 | .om j m a es,x=>match x with
  | .Call (.Attribute l m' ap) xs [] p=>decide (m'=m) && a7U l && (ap.endLine == p.line) && decide (xs.length < 30) && mtB n.fns j m && chk n sc a l && a5Q n sc es xs
  | _=>false
 | .mk j es,x=>match x with
  | .Call (.Name y _) xs [] _=>enB n.fns j (.mt y "__init__") && decide ((y == ("__debug__" : Str))=false) && glB sc y && a5Q n sc es xs
  | _=>false
 | .lck e,x=>chk n sc e x
 | .fz e,x=>chk n sc e x
 | .fzt _ e,x=>chk n sc e x
 | .ofs srt a,x=>match x with
  | .Call (.Name y _) [.Call (.Name z _) [l] [] _] [] _=>decide (y=b5h srt) && glB sc y && decide (z=("set" : Str)) && glB sc z && a0t l && chk n sc a l
  | _=>false
 | .ofi a,x=>match x with
  | .Call (.Name y _) [.Call (.Name z _) [l] [] _] [] _=>decide (y=("sorted" : Str)) && glB sc y && decide (z=("set" : Str)) && glB sc z && a0t l && chk n sc a l
  | _=>false
 | .vls _ a,x=>match x with
  | .Call (.Name y _) [.Call (.Attribute l m ap) [] [] p] [] _=>decide (y=("list" : Str)) && glB sc y && decide (m=("values" : Str)) && a7U l && (ap.endLine == p.line) && chk n sc a l
  | _=>false
 | .rev _ a,x=>match x with
  | .Subscript l (.Slice none none (some (.UnaryOp .USub (.Constant (.int 1) _ _) _)) _) _=>chk n sc a l
  | _=>false
 | .sl2 k a,x=>match x with
  | .Subscript l (.Slice lo none (some (.Constant (.int 2) _ _)) _) _=>loE k lo && chk n sc a l
  | _=>false
 | .kin neg j a,x=>match x with
  | .Compare l [o] [.Name y _] _=>decide (o=(if neg=true then CmpOp.NotIn else CmpOp.In)) && nmB n.gvs j y && glB sc y && chk n sc a l
  | _=>false
 | .adc a b,x=>match x with
  | .BinOp l o r _=>decide (o=Operator.Add) && (chk n sc a l && chk n sc b r)
  | _=>false
 | .kix j a,x=>match x with
  | .Subscript (.Name y _) r _=>nmB n.gvs j y && glB sc y && a2v r && chk n sc a r
  | _=>false
 | .dct _ ps,x=>match x with
  | .Dict ks vs _=>decide (ks.length≤15) && b3Q n sc ps ks vs
  | _=>false
 | .nev,_=>true
 | .bi b es,x=>match x with
  | .Call (.Name y _) xs [] _=>decide (y=b.nm) && glB sc y && !xs.isEmpty && a5Q n sc es xs
  | _=>false
 | .isi a c,x=>match x with
  | .Call (.Name y _) [l,.Name z _] [] _=>decide (y=("isinstance" : Str)) && glB sc y && glB sc z && a0t l && chk n sc a l && (match c with
   | .ty t=>decide (bootBuiltins z=some (.type t)) && decide (z≠("__name__" : Str)) && decide ((z == ("__debug__" : Str))=false) && decide (z∈a3Z)
   | .own j=>nmB n.cls j z)
  | _=>false
 | .lc _ elt tg one it c own,x=>match x with
  | .ListComp xe [⟨xt,xi,ifs,0⟩] scope _=>blkC n.N sc scope own && a1R xi && a5X n sc it xi && (tg.all fun i=>decide (i∈own.map (·.2))) && a0U n scope tg one xt && b3P n scope c ifs && chk n scope elt xe && (!it.two || !one)
  | _=>false
def b3Q (n:SN) (sc:Scope):RQ→List (Option Expr)→List Expr→Bool
 | .nil,ks,vs=>ks.isEmpty && vs.isEmpty
 | .cons k v r,ks,vs=>match ks,vs with
  | some x :: ks,y :: vs=>chk n sc k x && chk n sc v y && b3Q n sc r ks vs
  | _,_=>false
def a5Q (n:SN) (sc:Scope):RL→List Expr→Bool
 | .nil,xs=>xs.isEmpty
 | .cons e es,xs=>match xs with
  | x :: xs=>a0t x && (chk n sc e x && a5Q n sc es xs)
  | []=>false
def b1t (n:SN) (sc:Scope):RO→Option Expr→Bool
 | .nn,x=>x.isNone
 | .ss e,x=>match x with
  | some x=>chk n sc e x
  | none=>false
def b3P (n:SN) (sc:Scope):RO→List Expr→Bool
 | .nn,x=>x.isEmpty
 | .ss e,x=>match x with
  | [x]=>chk n sc e x
  | _=>false
def a5X (n:SN) (sc:Scope):RI→Expr→Bool
 | .lst e,x=>chk n sc e x
 | .tup e,x=>chk n sc e x
 | .rng1 a,x=>match x with
  | .Call (.Name y _) [l] [] _=>decide (y=("range" : Str)) && glB sc y && a0t l && chk n sc a l
  | _=>false
 | .rng2 a b,x=>match x with
  | .Call (.Name y _) [l,r] [] _=>decide (y=("range" : Str)) && glB sc y && a0t l && a0t r && (chk n sc a l && chk n sc b r)
  | _=>false
 | .str e,x=>chk n sc e x
 | .keys e,x=>chk n sc e x
 | .zip _ _ a b,x=>match x with
  | .Call (.Name y _) [l,r] [] _=>decide (y=("zip" : Str)) && glB sc y && a0t l && a0t r && (chk n sc a l && chk n sc b r)
  | _=>false
 | .enumt e,x=>match x with
  | .Call (.Name y _) [l] [] _=>decide (y=("enumerate" : Str)) && glB sc y && a0t l && chk n sc e l
  | _=>false
 | .enum e,x=>match x with
  | .Call (.Name y _) [l] [] _=>decide (y=("enumerate" : Str)) && glB sc y && a0t l && chk n sc e l
  | _=>false
 | .items e,x=>match x with
  | .Call (.Attribute l m ap) [] [] p=>decide (m=("items" : Str)) && a7U l && (ap.endLine == p.line) && chk n sc e l
  | _=>false
end
end Sv
namespace PySem.W
open PySem PySem.Spec PySem.Calls PyProof.Rows
section
variable {prog:Program} {w:World} {A:Around} {E:Value→Shared→Prop} {s:Shared} {K:Frag} {x D:Addr} {ox:Obj} {od:Option Obj}
theorem a8s (hd:hasDictIn K D=true) (ha:findIn K (.ref D) "__class__" = some (some (.builtin "object.__class__"))) (gt:specialIn K (.builtin "object.__class__") "__get__" = some (some (.builtin "getset_descriptor.__get__"))) (tk:takesIn K (.builtin "object.__class__")=some true) :
  findObj K D od "__class__" = some (.bind (.builtin "getset_descriptor.__get__") (.builtin "object.__class__")):=by
 have known:(clsIn K D).isSome=true:=by
  have ⟨_,e,_⟩:=any_some hd
  simp [e]
 match od with
 | none=>exact findObj_dataN known ha gt tk
 | some _=>exact findObj_data known ha gt tk
theorem a8r (own:findIn K (.ref D) "__getattribute__" = some (some (.builtin "BaseException.__getattribute__"))) (noHook:findIn K (.ref D) "__getattr__" = some none) (err:subIn K (.ref D) (.type "BaseException")=some true) (obj:mroIn K D (.type "object")=some true)
  (fnd:findObj K D od "__class__" = some (.bind (.builtin "getset_descriptor.__get__") (.builtin "object.__class__"))) (inK:K.In s.heap) (I:InstAt s.heap x ox D od) {Q:Option Value→Shared→Prop} (want:Q (some (.ref D)) { s with toks:=s.toks + 1 }):wpAny (model prog w) A (getAttr? (.ref x) "__class__") Q E s:=by
 rcases s with ⟨hp,gs,dr,tk,os⟩
 have ty {M:Model}:=I.type (M:=M)
 have own' {M:Model}:=looks_findIn (M:=M) inK own
 have hook' {M:Model}:=looks_findIn (M:=M) inK noHook
 have fnd' {M:Model}:=looks_find (M:=M) inK I fnd
 have isErr {M:Model}:Looks M hp (isInstance (.ref x) (.type "BaseException")) true:=ty.andThen (looks_subIn inK err)
 simp only [getAttr?,getAttrBy?,getAttrBy,getAttrByItsOwn,hookBefore,callGetattribute,boundAndCalled]
 repeat (first | with_reducible refine ty.at ?_ | with_reducible refine own'.at ?_ | with_reducible refine hook'.at ?_ | wp_step)
 refine wpAny_of_eq (PySem.F.excAttr_ValueError.ga.bind (.ref x)) ?_
 apply wpAny_call
 refine codeAny_call_builtin PySem.F.excAttr_ValueError.ga.plain PySem.F.entry_bexc_ga ?_
 have kind:builtinKind "BaseException.__getattribute__" = some .slot:=by decide +kernel
 have split:splitId "BaseException.__getattribute__" = some ("BaseException", "__getattribute__"):=by decide +kernel
 refine check_slot (i := "BaseException.__getattribute__") (self:=.ref x) (rest:=[.str "__class__" tk]) (kw:=[]) kind split isErr (PySem.F.args_bexc_ga _ _) ?_
 unfold Builtin.«object.__getattribute__»
 refine wpAny_bind (wpAny_of_eq (a:=((Value.ref x:Value),[Value.str "__class__" tk])) (by first | rfl | (simp only [slotArgs];rfl)) ?_)
 dsimp only
 repeat (first | with_reducible refine ty.at ?_ | with_reducible refine fnd'.at ?_ | wp_step)
 refine class_get (s:=⟨hp,gs,dr,tk + 1,os⟩) inK I obj (wpAny_pure ?_)
 dsimp only
 rw [handedOut_of (v:=.ref D) rfl]
 exact wpAny_pure (wpAny_pure want)
theorem err_kit (f:L2.ExcC K D):KitX K (.ref x) (.ref D) fun h=>InstAt h x ox D od where
 ty _ _ _ I:=I.type
 ca inK I want:=a8r f.hg f.hk f.hs f.hm (a8s f.hd f.ha f.hn f.ht) inK I want
 it:=by
  intro M h inK _
  have ⟨_,known,_⟩:=any_some f.hd
  revert known
  unfold clsIn
  split
  ·rename_i at_D
   intro _ A Q E t k q
   unfold isType loadHead
   exact wpAny_bind (wpAny_loadPart (k _ _ (inK _ _ at_D)) (wpAny_pure q))
  ·exact nofun
 ne:=by
  intro h tp dd its n sl inK at_tp
  have ⟨_,known,_⟩:=any_some f.hd
  cases same:(Value.ref D == Value.ref tp) with
  | false=>rfl
  | true =>
   cases beq_iff_eq.mp same
   revert known
   unfold clsIn
   split
   ·rename_i at_D
    cases (inK _ _ at_D).symm.trans at_tp
   ·exact nofun
end
end PySem.W
namespace Sv
open PySem PySem.Spec PyProof.Rows L2
open L2H (RoomH)
structure ExcAt (X:Cx) (H:Hp) (a C:Addr) (oe:Obj) (d:Option Addr):Prop where
 pin:(a,oe)∈X.pn
 z:Zc (.ref C) d oe
 f:∃ vs,oe.data=.fields vs
 d:d=none∨∃ dd ws,d=some dd∧H dd=some (.xd ws)
section
variable {X:Cx} {pins:List (Addr × Obj)} {σ:L2.St} {H:Hp} {s:Shared}
theorem a3a (I:Inv X pins σ H s) {d:Addr} {ws:List (Str × V)} (at_d:H d=some (.xd ws)):∃ od,s.heap.get? d=some od∧∀ (f:Str) (w:V),ws.lookup f=some w→∃ u,PySem.W.lookIn f od=some (some u)∧RelV w u:=by
 have laid:ObjOk X.prog X.w H s.heap d (.xd ws):=I.hok d _ at_d
 have ⟨keeps,named,alike⟩:=laid
 have ⟨od,there,tells⟩:=lookIn_ns named
 refine ⟨od,there,fun f w is=>?_⟩
 have like:=alike f
 rw [is] at like
 have told:=tells f
 cases found:keeps f with
 | none=>rw [found] at like;exact like.elim
 | some u=>rw [found] at like told;exact ⟨u,told,like⟩
theorem a1F {a C:Addr} {oe:Obj} {d:Option Addr} {od:Option Obj} (dict:match d,od with | some p,some o=>s.heap.get? p=some o | none,none=>True | _,_=>False)
  (zc:Zc (.ref C) d oe) (fields:∃ vs,oe.data=.fields vs) (here:s.heap.get? a=some oe):PySem.W.InstAt s.heap a oe C od where
 at_:=here
 cls:=zc.1
 no:=by
  have ⟨_,e⟩:=fields
  simp only [PySem.W.notCls,e]
 dict:=by rw [zc.2];exact dict
theorem ExcAt.inst {a C:Addr} {oe:Obj} {d:Option Addr} (x:ExcAt X H a C oe d) (I:Inv X pins σ H s):∃ od,PySem.W.InstAt s.heap a oe C od:=by
 have here:=(I.pin (a,oe) (zar _ x.pin)).1
 rcases x.d with rfl | ⟨p,ws,rfl,at_p⟩
 ·exact ⟨none,a1F trivial x.z x.f here⟩
 ·have ⟨od,there,_⟩:=a3a I at_p
  exact ⟨some od,a1F there x.z x.f here⟩
end
theorem a8z {X:Cx} {pins:List (Addr × Obj)} {σ:L2.St} {H:Hp} {s:Shared} {a C:Addr} {d:Option Addr} {bare:Bool} (I:Inv X pins σ H s) (x:b1f H a C d bare) (dict:d=none∨∃ dd ws,d=some dd∧H dd=some (.xd ws)) :
  ∃ oe od,PySem.W.InstAt s.heap a oe C od:=by
 obtain ⟨φ,at_a,says⟩:=x
 have laid:ObjOk X.prog X.w H s.heap a (.ext φ):=I.hok a _ at_a
 obtain ⟨oe,here,zc,vs,fields,_⟩:=says _ laid.1
 rcases dict with rfl | ⟨p,ws,rfl,at_p⟩
 ·exact ⟨oe,none,a1F trivial zc ⟨vs,fields⟩ here⟩
 ·have ⟨od,there,_⟩:=a3a I at_p
  exact ⟨oe,some od,a1F there zc ⟨vs,fields⟩ here⟩
inductive TyP (X:Cx) (H:Hp):V→Value→Prop where
 | held {a C:Addr} {d:Option Addr} {bare:Bool} (h:b1f H a C d bare) (dict:d=none∨∃ dd ws,d=some dd∧H dd=some (.xd ws)) (c:ExcC X.K C):TyP X H (.ref a) (.ref C)
 | base {v:V} {t:Value} (h:TyX X.K H v t):TyP X H v t
 | exc {a C:Addr} {oe:Obj} {d:Option Addr} (h:ExcAt X H a C oe d) (c:ExcC X.K C):TyP X H (.ref a) (.ref C)
def c3d (X:Cx):List V→Hp→VK→Prop:=fun xs H Q=>∃ (x c:V) (t u:Value) (b:Bool),xs=[x,c]∧ClsV c u∧TyP X H x t∧PySem.W.kitOne X.K t u=some b∧Q (.bl b) H
theorem a9T {X:Cx}:CallR X (.builtin "isinstance") (c3d X):=by
 rintro pins s σ H _ us Q I given ⟨_,_,_,_,b,rfl,names,kind,asks,want⟩
 cases kind with
 | base plain=>exact call_isi _ _ _ _ _ _ _ I given ⟨_,_,_,_,b,rfl,names,plain,asks,want⟩
 | held at_a dict cls =>
  obtain ⟨_,rfl,one⟩:∃ u,us=[.ref _,u]∧RelV _ u:=by
   cases given with
   | cons one rest =>
    cases rest with
    | cons two none_left =>
     cases none_left
     cases one
     exact ⟨_,rfl,two⟩
  cases names.eq one
  have ⟨_,_,J⟩:=a8z I at_a dict
  exact PySem.W.kia_one (PySem.W.err_kit cls) I.kIn J asks nofun fun t=>⟨.bl b,_,I.tok t,rfl,want⟩
 | exc at_a cls =>
  cases given with
  | cons one rest =>
   cases rest with
   | cons two none_left =>
    cases none_left
    cases one
    cases names.eq two
    have ⟨_,J⟩:=at_a.inst I
    exact PySem.W.kia_one (PySem.W.err_kit cls) I.kIn J asks nofun fun t=>⟨.bl b,_,I.tok t,rfl,want⟩
def b1g (X:Cx) (m0:Option (Addr × Obj)):Prop:=∀ p,m0=some p→p∈X.pn
theorem a02.p {X:Cx} {m0:Option (Addr × Obj)} (h:a02 X m0):b1g X m0:=fun p e=>by
 subst e
 exact h.2.2
section
variable {X:Cx} {G:Gm} {S:SS} {H:Hp}
theorem b6v (hK:G.K=X.K) (hm:b1g X G.m0) (hc:CellsOk G.toGd S H) {d:D} {v:V} {t:Value} (r:Rep G.toGd S H d v) (e:tyD S d=some t) (ok:a4S G S d):TyP X H v t:=by
 cases d with
 | non=>simp only [Rep] at r;subst r;cases e;exact .base (.base .non)
 | bl _=>simp only [Rep] at r;subst r;cases e;exact .base (.base (.bl _))
 | int _=>simp only [Rep] at r;subst r;cases e;exact .base (.base (.int _))
 | str _=>simp only [Rep] at r;subst r;cases e;exact .base (.base (.str _))
 | lst ds =>
  simp only [Rep] at r
  obtain ⟨p,vs,rfl,a,b⟩:=r
  cases e
  rcases a.sq with (a | ⟨o,a⟩) | ⟨o,its,n,a,c,_⟩
  ·exact .base (.base (.lst a))
  ·exact .base (.base (.frz a))
  ·rw [hK] at a
   exact .base (.kList a c)
 | tup ds =>
  simp only [Rep] at r
  obtain ⟨p,vs,rfl,a,b⟩:=r
  cases e
  rcases a.sq with (a | ⟨o,a⟩) | ⟨o,its,n,a,c,_⟩
  ·exact .base (.base (.tup a))
  ·exact .base (.fTuple a)
  ·rw [hK] at a
   exact .base (.kTuple a c)
 | dic ds =>
  simp only [Rep] at r
  obtain ⟨p,vs,rfl,_,a,b⟩:=r
  cases e
  exact .base (.base (.dK a))
 | obj a =>
  simp only [Rep] at r
  subst r
  have e':(match S a with | some (.lst _)=>some (Value.type "list") | some (.dic _)=>some (.type "dict") | some (.loc _)=>some (.type "dict") | some (.ins C _)=>some (.ref C) | none=>none)=some t:=e
  cases q:S a with
  | none=>rw [q] at e';cases e'
  | some c =>
   rw [q] at e'
   have k:=hc a c q
   cases c with
   | lst _=>cases e';obtain ⟨_,h,_⟩:=k;exact .base (.base (.lst h))
   | dic _=>cases e';obtain ⟨_,h,_⟩:=k;exact .base (.base (.dK h))
   | loc _=>cases e';obtain ⟨_,_,h,_⟩:=k;exact .base (.fDict h)
   | ins C fs =>
    cases e'
    obtain ⟨dx,ws,h,_⟩:=k
    have F:=ok C fs q
    rw [hK] at F
    exact .base (.base (.ins h F.cl F.ha F.hn F.htk F.hm))
 | exc y oe C fs =>
  simp only [Rep] at r
  obtain ⟨d,rfl,⟨z,f⟩,x⟩:=r
  cases e
  have F:=ok.2
  rw [hK] at F
  refine .exc (oe:=oe) (d:=d) ⟨hm _ ok.1,z,f,?_⟩ F
  rcases x with ⟨x,_⟩ | ⟨dd,ws,x,_,y,_⟩
  ·exact .inl x
  ·exact .inr ⟨dd,ws,x,y⟩
 | err y C fs bare =>
  simp only [Rep] at r
  obtain ⟨d,rfl,_,held,x⟩:=r
  cases e
  have F:a7R G.K C:=ok
  rw [hK] at F
  refine .held held ?_ F
  rcases x with ⟨x,_⟩ | ⟨dd,ws,x,_,y,_⟩
  ·exact .inl x
  ·exact .inr ⟨dd,ws,x,y⟩
theorem a4I {g:Gd} {fs:List (Str × D)}:∀ {ws:List (Str × V)},a1Q g S H fs ws→∀ {f:Str} {d:D},fs.lookup f=some d→∃ v,ws.lookup f=some v∧Rep g S H d v:=by
 induction fs with
 | nil=>intro ws _ f d e;cases e
 | cons p fs ih =>
  intro ws r f d e
  obtain ⟨k,x⟩:=p
  simp only [a1Q] at r
  obtain ⟨v,q,rfl,a,b⟩:=r
  rw [List.lookup_cons] at e ⊢
  cases h:f == k with
  | true=>rw [h] at e;cases e;exact ⟨v,rfl,a⟩
  | false=>rw [h] at e;exact ih b e
theorem a9k {g:Gd} {fs:List (Str × D)}:∀ {ws:List (Str × V)},a1Q g S H fs ws→∀ {f:Str},fs.lookup f=none→ws.lookup f=none:=by
 induction fs with
 | nil=>intro ws r f _;simp only [a1Q] at r;subst r;rfl
 | cons p fs ih =>
  intro ws r f e
  obtain ⟨k,x⟩:=p
  simp only [a1Q] at r
  obtain ⟨v,q,rfl,a,b⟩:=r
  rw [List.lookup_cons] at e ⊢
  cases h:f == k with
  | true=>rw [h] at e;cases e
  | false=>rw [h] at e;exact ih b e
theorem b2F {W:WX} {e:Expr} {f:Str} {pos:Pos} {t:RdE} (hK:G.K=X.K) (hm:b1g X G.m0) (he:PE X e (LE G.toGd W t)) (hb:attributeBase e f X.env (eval e X.env)=eval e X.env) :
  PE X (.Attribute e f pos) (LE G.toGd W fun δ S Y K=>t δ S Y fun x S1=>a8u G f x S1 K):=by
 refine ⟨fun pins s σ H Q I h=>?_⟩
 obtain ⟨δ,S,Y,K,R,ht,res,rw'⟩:=h
 refine attr_of hb (thn (he.run pins s σ H (fun v H1=>∃ d S1,a8u G f d S1 K∧a0d S H S1 H1∧CellsOk G.toGd S1 H1∧Rep G.toGd S1 H1 d v) I ⟨δ,S,Y,_,R,ht,fun d S1 v H1 k P c r=>⟨d,S1,k,P,c,r⟩,rw'⟩) fun u s1 hh=>?_)
 obtain ⟨v,H1,I1,rv,d,S1,k,P,c,r⟩:=hh
 unfold a8u at k
 split at k
 ·rename_i a
  cases a0q r
  cases rv
  obtain ⟨C,fs,x,e1,cl,na,l,q⟩:=k
  obtain ⟨dx,ws,ha,hf⟩:=c _ _ e1
  obtain ⟨w,lw,rw2⟩:=a4I hf l
  rw [hK] at cl na
  exact getattr_ok I1 ha cl na lw fun u s' I' ru=>⟨w,H1,I',ru,res _ S1 _ _ q P c rw2⟩
 ·rename_i y oe C fs
  obtain ⟨mine,cls,apart,x,has,q⟩:=k
  simp only [Rep] at r
  obtain ⟨d,rfl,⟨zc,fields⟩,bare | ⟨p,ws,hasD,_,at_p,same⟩⟩:=r
  ·rw [bare.2] at has
   exact nomatch has
  ·cases rv
   rw [hK] at cls apart
   have ⟨w,is,like⟩:=a4I same has
   have ⟨od,there,keeps⟩:=a3a I1 at_p
   have ⟨u,kept,ru⟩:=keeps f w is
   have here:=(I1.pin (y,oe) (zar _ (hm _ mine))).1
   exact HandSPX.exc_get I1.kIn (a1F (by rw [hasD];exact there) zc fields here) cls.hg cls.hk cls.hs (PySem.W.findObj_own cls.hd apart rfl kept) (handed_of ru) ⟨w,H1,I1.tok _,ru,res _ S1 _ _ q P c like⟩
 ·rename_i y C fs bare
  obtain ⟨cls,apart,x,has,q⟩:=k
  simp only [Rep] at r
  obtain ⟨d,rfl,_,⟨φ,at_y,says⟩,none_ | ⟨p,ws,hasD,_,at_p,same⟩⟩:=r
  ·rw [none_.2] at has
   exact nomatch has
  ·cases rv
   rw [hK] at cls apart
   have laid:ObjOk X.prog X.w H1 s1.heap y (.ext φ):=I1.hok y _ at_y
   obtain ⟨oe,here,zc,vs,fields,_⟩:=says _ laid.1
   have ⟨w,is,like⟩:=a4I same has
   have ⟨od,there,keeps⟩:=a3a I1 at_p
   have ⟨u,kept,ru⟩:=keeps f w is
   exact HandSPX.exc_get I1.kIn (a1F (by rw [hasD];exact there) zc ⟨vs,fields⟩ here) cls.hg cls.hk cls.hs (PySem.W.findObj_own cls.hd apart rfl kept) (handed_of ru) ⟨w,H1,I1.tok _,ru,res _ S1 _ _ q P c like⟩
 ·exact k.elim
end
end Sv
namespace Sv
open PySem PySem.Spec PyProof.Rows L2
open L2H (RoomH)
def b6C (K:zbj) (w:World) (p:Addr) (kvs:List (Key × D)):Prop:=∃ es n,KDict K w p es n∧∀ z:Str,match valD kvs (.inr z) with
 | some d=>∃ u v,PySem.W.nsIn K p z=some (some u)∧RelV v u∧∀ S H,Rep ⟨K⟩ S H d v
 | none=>PySem.W.nsIn K p z=some none
structure GOk (n:SN) (P:Program) (w:World) (KK:zbj) (mg:Str→Option Value) (base:Heap) (G:Gm) (k:Nat):Prop where
 K:G.K=KK
 nd:n.N.Nodup
 fn:∀ h j T x,G.fn h j=some T→n.fns[j]?=some (.fn x)→∃ f fd ps,mg x=some (.ref f)∧PySem.W.keepIn KK (.ref f)=true∧L2.Binds KK fd ps []∧FnG P w KK mg base h k f fd ps (spD G.toGd T)
 meth:∀ h j T C m,G.fn h j=some T→n.fns[j]?=some (.mt C m)→∃ f fd ps,Cls KK (G.mc j)∧Meth KK (G.mc j) m f∧L2.Binds KK fd ps []∧FnG P w KK mg base h k f fd ps (spD G.toGd T)
 made:∀ j T C,G.fn false j=some T→n.fns[j]?=some (.mt C "__init__")→mg C=some (.ref (G.mc j))∧∃ f fd ps kI,Mk KK (G.mc j) f∧L2.Binds KK fd ps []∧kI + 1≤k∧FnG P w KK mg base false kI f fd ps (spD G.toGd T)
 gv:∀ j x,n.gvs[j]?=some x→∃ v u,mg x=some u∧RelV v u∧∀ S H,Rep G.toGd S H (G.gv j) v
 cl:∀ j x,n.cls[j]?=some x→mg x=some (.ref (G.cl j))
 bt:∀ x,x∈a3Z→mg x=none
 kd:∀ j x kvs,n.gvs[j]?=some x→G.kd j=some kvs→∃ p,mg x=some (.ref p)∧b6C KK w p kvs
structure b1n (X:Cx) (sc:Scope):Prop where
 vis:∀ x,b0Q sc x=true→Vis X.env.scope x
 loc:∀ x,a7T sc x=true→Loc X.env.scope x∧(X.fn x=true∨X.env.scope.names.lookup x=some .local)
 gl:∀ x,glB sc x=true→Gl X x
 fr:∀ x,sc.names.lookup x=some .cell∨sc.names.lookup x=some .free→X.env.scope.names.lookup x=some .cell∨X.env.scope.names.lookup x=some .free
structure XC (n:SN) (X:Cx) (G:Gm) (W:WX) (k:Nat) (sc:Scope):Prop where
 ok:GOk n X.prog X.w X.K X.mg X.base G k
 N:X.N=n.N
 sc:b1n X sc
 rm:RoomH k X.A
 md:a02 X G.m0
 tk:L2N.Takes X W
 ps:PassesOwn (model X.prog X.w) X.A X.env X.xe
abbrev noW:WX:=fun _ _ _ _=>False
theorem a4g {env:Env}:∀ {names:List (Str × NameKind)} {x:Str} {k:NameKind},names.lookup x=some k →
  (names.map fun (n,k)=>if (k == NameKind.free && env.scope.kind == .function && env.kindOf n == some .cell) then (n,NameKind.cell) else (n,k)).lookup x=some k ∨
  (k=.free∧(names.map fun (n,k)=>if (k == NameKind.free && env.scope.kind == .function && env.kindOf n == some .cell) then (n,NameKind.cell) else (n,k)).lookup x=some .cell)
 | [],_,_,h=>by simp at h
 | (m,j) :: r,x,k,h=>by
  have ih:=@a4g env r x k
  rw [zax]
  cases hx:x == m with
  | true =>
   rw [List.lookup_cons,hx] at h
   cases h
   by_cases q:(j == NameKind.free && env.scope.kind == .function && env.kindOf m == some .cell)=true
   ·right
    refine ⟨?_,?_⟩
    ·simp only [zak,beq_iff_eq] at q
     cases j <;> first | rfl | (have:=q.1.1;simp at this;done) | (exact absurd q.1.1 (by decide))
    ·simp only [q,if_true];rw [List.lookup_cons,hx]
   ·left
    simp only [q,if_false,Bool.false_eq_true];rw [List.lookup_cons,hx]
  | false =>
   rw [List.lookup_cons,hx] at h
   have e:∀ z:NameKind,List.lookup x ((m,z) :: r.map fun (n,k)=>if (k == NameKind.free && env.scope.kind == .function && env.kindOf n == some .cell) then (n,NameKind.cell) else (n,k)) =
     List.lookup x (r.map fun (n,k)=>if (k == NameKind.free && env.scope.kind == .function && env.kindOf n == some .cell) then (n,NameKind.cell) else (n,k)):=fun z=>by rw [List.lookup_cons,hx]
   dsimp only
   split
   ·rw [e];exact ih h
   ·rw [e];exact ih h
section
variable {n:SN} {X:Cx} {G:Gm} {W:WX} {k:Nat} {sc:Scope}
theorem b1n.self (hf:∀ x,X.fn x=true):b1n X X.env.scope :=
 ⟨fun _ h=>a6z h,fun x h=>⟨a8U h,.inl (hf x)⟩,fun _ h=>a8x h,fun _ h=>h⟩
theorem XC.nd (c:XC n X G W k sc):X.N.Nodup:=c.N ▸ c.ok.nd
theorem XC.un (c:XC n X G W k sc):X.A.units + 65 < cLine:=by have:=c.rm.un;omega
theorem XC.at (c:XC n X G W k sc) {i:Nat} {x:Str} (h:nmB n.N i x=true):X.N[i]?=some x:=c.N ▸ (a0E h).1
theorem b1n.blk {s:Shared} {H:Hp} {scope:Scope} {C:Addr} {cl:List (Str × Addr)} {fp:List Addr}:b1n (X.blk s H scope (compEnvC scope cl C X.env) fp) scope:=by
 have key:∀ {x k},scope.names.lookup x=some k→(X.blk s H scope (compEnvC scope cl C X.env) fp).env.scope.names.lookup x=some k∨(k=.free∧(X.blk s H scope (compEnvC scope cl C X.env) fp).env.scope.names.lookup x=some .cell):=fun {x k} h=>a4g (env:=X.env) h
 refine ⟨fun x h=>?_,fun x h=>?_,fun x h=>?_,fun x h=>?_⟩
 ·rcases a6z h with h | h | h <;> rcases key h with q | ⟨_,q⟩
  ·exact .inl q
  ·exact .inr (.inl q)
  ·exact .inr (.inl q)
  ·exact .inr (.inl q)
  ·exact .inr (.inr q)
  ·exact .inr (.inl q)
 ·rcases a8U h with h | h <;> rcases key h with q | ⟨e,q⟩
  ·exact ⟨.inl q,.inr q⟩
  ·cases e
  ·refine ⟨.inr q,.inl ?_⟩
   show (scope.names.lookup x == some .cell)=true
   rw [h];rfl
  ·cases e
 ·rcases key (a8x h) with q | ⟨e,_⟩
  ·exact q
  ·cases e
 ·rcases h with h | h <;> rcases key h with q | ⟨_,q⟩
  ·exact .inl q
  ·exact .inl q
  ·exact .inr q
  ·exact .inl q
theorem XC.blk (c:XC n X G W k sc) (hm:G.m0=none) {s:Shared} {H:Hp} {scope:Scope} {C:Addr} {cl:List (Str × Addr)} {fp:List Addr}:XC n (X.blk s H scope (compEnvC scope cl C X.env) fp) G noW k scope :=
 ⟨c.ok,c.N,b1n.blk,c.rm,by have:=c.md;rw [hm] at this ⊢;exact this,fun u s' ⟨_,_,_,_,_,_,_,_,_,_,_,_,_,_,_,_,z⟩=>z.elim,PassesOwn.never⟩
theorem XC.vis (c:XC n X G W k sc) {x:Str} (h:b0Q sc x=true):Vis X.env.scope x:=c.sc.vis x h
theorem XC.loc (c:XC n X G W k sc) {x:Str} (h:a7T sc x=true):Loc X.env.scope x:=(c.sc.loc x h).1
theorem XC.sto (c:XC n X G W k sc) {x:Str} (h:a7T sc x=true):X.fn x=true∨X.env.scope.names.lookup x=some .local:=(c.sc.loc x h).2
theorem XC.gl (c:XC n X G W k sc) {x:Str} (h:glB sc x=true):Gl X x:=c.sc.gl x h
end
def LG (g:Gd) (t:D→DS→SS→(DS→SS→Prop)→Prop):TG:=fun v σ H Q=>∃ d δ S K,Rel g S H δ σ∧Rep g S H d v∧t d δ S K∧∀ δ' S' σ' H',K δ' S'→a0d S H S' H'→Rel g S' H' δ' σ'→Q σ' H'
section
variable {n:SN} {X:Cx} {G:Gm} {W:WX} {k:Nat} {sc:Scope}
theorem PG.imp {e:Expr} {t t':TG} (h:PG X e t) (w:∀ v σ H Q,t' v σ H Q→t v σ H Q):PG X e t':=⟨fun pins s σ H v u Q I r q=>h.run pins s σ H v u Q I r (w v σ H Q q)⟩
def a5g:List Nat→TGs
 | []=>gNil
 | i :: is=>gCons (gName i) (a5g is)
theorem a3B (c:XC n X G W k sc):∀ (is:List Nat) (xs:List Expr),a8g n sc is xs=true→PGs X xs (a5g is)∧(assignEach xs X.env).length=is.length∧(assignEach xs X.env).findIdx? (·.1)=none
 | [],xs,h=>by
  unfold a8g at h
  cases xs with
  | nil=>exact ⟨pgs_nil,rfl,rfl⟩
  | cons _ _=>cases h
 | i :: is,xs,h=>by
  unfold a8g at h
  split at h
  ·rename_i y p ys
   simp only [zak] at h
   obtain ⟨h1,h2,h3⟩:=a3B c is ys h.2
   refine ⟨pgs_cons (pg_name c.nd (c.at h.1.1) (c.loc h.1.2) (c.sto h.1.2)) h1,?_,?_⟩
   ·show (assignEach (Expr.Name y p :: ys) X.env).length=_
    unfold assignEach
    rw [zaz,zaz,h2]
   ·show (assignEach (Expr.Name y p :: ys) X.env).findIdx? _=none
    unfold assignEach
    rw [List.findIdx?_cons,h3];rfl
  ·cases h
theorem a4i {g:Gd} {S:SS} {H:Hp}:∀ (is:List Nat) (ds:List D) (vs:List V) (δ:DS) (σ:L2.St) (Q:L2.St→Hp→Prop),Rel g S H δ σ→a0e g S H ds vs→ds.length=is.length→(∀ σ',Rel g S H (a3I δ is ds) σ'→Q σ' H)→a5g is vs σ H Q
 | [],ds,vs,δ,σ,Q,R,r,l,h=>by
  cases ds with
  | nil=>simp only [a0e] at r;subst r;exact ⟨rfl,h σ R⟩
  | cons _ _=>cases l
 | i :: is,ds,vs,δ,σ,Q,R,r,l,h=>by
  cases ds with
  | nil=>cases l
  | cons d ds =>
   simp only [a0e] at r
   obtain ⟨v,q,rfl,a,b⟩:=r
   exact ⟨v,q,rfl,a4i is ds q _ _ Q ⟨R.sl.set a,R.ce⟩ b (by simpa using l) h⟩
end
section
variable {g:Gd} {W:WX}
def LE1 (g:Gd) (W:WX) (t:D→RdE) (v:V):TE:=fun σ H Q=>∃ x δ S Y K,Rel g S H δ σ∧Rep g S H x v∧t x δ S Y K∧Res g S H K Q∧a5P g S H Y W
theorem a0y {t1:RdE} {t2:D→RdE} {σ:L2.St} {H:Hp} {Q:VK} (h:LE g W (fun δ S Y K=>t1 δ S Y fun x S1=>t2 x δ S1 Y K) σ H Q):LE g W t1 σ H fun v H1=>LE1 g W t2 v σ H1 Q:=by
 obtain ⟨δ,S,Y,K,R,ht,res,rw'⟩:=h
 exact ⟨δ,S,Y,_,R,ht,fun d S1 v H1 k P c r=>⟨d,δ,S1,Y,K,R.mono P c,r,k,res.mono P,rw'.mono P⟩,rw'⟩
def LE2 (g:Gd) (W:WX) (t:D→D→RdE) (v u:V):TE:=fun σ H Q=>∃ x y δ S Y K,Rel g S H δ σ∧Rep g S H x v∧Rep g S H y u∧t x y δ S Y K∧Res g S H K Q∧a5P g S H Y W
theorem a1J {t1:RdE} {t2:D→D→RdE} {σ:L2.St} {H:Hp} {Q:VK} {v:V} (h:LE1 g W (fun x δ S Y K=>t1 δ S Y fun y S1=>t2 x y δ S1 Y K) v σ H Q):LE g W t1 σ H fun u H1=>LE2 g W t2 v u σ H1 Q:=by
 obtain ⟨x,δ,S,Y,K,R,r0,ht,res,rw'⟩:=h
 exact ⟨δ,S,Y,_,R,ht,fun d S1 u H1 k P c r=>⟨x,d,δ,S1,Y,K,R.mono P c,r0.mono P,r,k,res.mono P,rw'.mono P⟩,rw'⟩
theorem a5o {t:D→D→SS→DK→Prop} {σ:L2.St} {H:Hp} {Q:VK} {v u:V} (h:LE2 g W (fun x y _ S _ K=>t x y S K) v u σ H Q):rD2 g t v u H Q:=by
 obtain ⟨x,y,δ,S,Y,K,R,r1,r2,ht,res,_⟩:=h
 exact ⟨x,y,S,K,R.ce,r1,r2,ht,res⟩
theorem b2g {t:RdE} {σ:L2.St} {H:Hp} {Q:Bool→Hp→Prop} (h:LT g W (fun δ S Y K=>t δ S Y fun d S'=>∃ k,d=.bl k∧K k S') σ H Q):LE g W t σ H fun v H'=>∃ k,v=.bl k∧Q k H':=by
 obtain ⟨δ,S,Y,K,R,ht,res,rw'⟩:=h
 refine ⟨δ,S,Y,_,R,ht,fun d S1 v H1 k P c r=>?_,rw'⟩
 obtain ⟨b,rfl,k⟩:=k
 exact ⟨b,a2A r,res b S1 H1 k P c⟩
theorem b47 {K:zbj} (hK:g.K=K) {t:RdE} {σ:L2.St} {H:Hp} {Q:Bool→Hp→Prop} (h:LT g W (fun δ S Y K=>t δ S Y fun d S'=>a1c d S' fun b=>K b S') σ H Q):LE g W t σ H fun v H'=>∃ k,TruV K v H' k∧Q k H':=by
 obtain ⟨δ,S,Y,K',R,ht,res,rw'⟩:=h
 refine ⟨δ,S,Y,_,R,ht,fun d S1 v H1 k P c r=>?_,rw'⟩
 subst hK
 have X0:∃ k,TruV g.K v H1 k∧K' k S1:=by
  have k:a1c d S1 fun b=>K' b S1:=k
  unfold a1c at k
  split at k
  ·rename_i e;cases b1d r e;exact ⟨false,rfl,k⟩
  ·rename_i b e;cases b6y r e;exact ⟨b,rfl,k⟩
  ·rename_i b e;cases a7r r e;exact ⟨_,rfl,k⟩
  ·rename_i b e;cases a2E r e;exact ⟨_,⟨k.1,rfl⟩,k.2⟩
  ·rename_i ds e
   obtain ⟨p,vs,rfl,hl,hr⟩:=a0k c r e
   exact ⟨_,.inl ⟨vs,hl,rfl⟩,by rw [a04 hr];exact k⟩
  ·rename_i ds e
   obtain ⟨p,vs,rfl,hl,hr⟩:=a0C r e
   exact ⟨_,.inr (.inl ⟨vs,hl,rfl⟩),by rw [a04 hr];exact k⟩
  ·exact k.elim
 obtain ⟨b,tv,k⟩:=X0
 exact ⟨b,tv,res b S1 H1 k P c⟩
end
section
variable {n:SN} {X:Cx} {G:Gm} {W:WX} {k:Nat} {sc:Scope}
theorem a0K {x:Expr} {t:RdE} (h:∀ δ S Y K,¬ t δ S Y K):PE X x (LE G.toGd W t):=⟨fun _ _ _ _ _ _ ⟨_,_,_,_,_,q,_⟩=>(h _ _ _ _ q).elim⟩
theorem a7e {x:Expr} {t:RdT} (h:∀ δ S Y K,¬ t δ S Y K):PT X x (LT G.toGd W t):=⟨fun _ _ _ _ _ _ ⟨_,_,_,_,_,q,_⟩=>(h _ _ _ _ q).elim⟩
theorem a7g {x:Expr} {t:RdT} (h:∀ δ S Y K,¬ t δ S Y K):PW X x (LT G.toGd W t):=⟨fun _ _ _ _ _ _ _ ⟨_,_,_,_,_,q,_⟩=>(h _ _ _ _ q).elim⟩
theorem b9j {x:Expr} {t:RdE} (c:XC n X G W k sc) (h:PE X x (LE G.toGd W t)) (hp:plainT x=true):PT X x (LT G.toGd W fun δ S Y K=>t δ S Y fun d S'=>a1c d S' fun b=>K b S') :=
 PT.imp (pt_truth h fun whole=>plainT_ok hp whole) fun σ H Q q=>b47 c.ok.K q
end
end Sv
namespace Sv
open PySem PySem.Spec PySem.Calls PyProof.Rows L2
section
variable {prog:Program} {w:World} {A:Around} {E:Value→Shared→Prop} {s:Shared}
theorem a6Y {h h':Heap} {it l:Addr} {us:Array Value} (a:h.IsList l us) (k:Heap.SameBut it h h') (ne:l≠it):h'.IsList l us:=by
 obtain ⟨o,e,r⟩:=a
 exact ⟨o,k.extBut l o ne e,r⟩
theorem a8n {it l:Addr} {us:Array Value} (ne:l≠it):∀ (k i:Nat) (s:Shared) (Q:List Value→Shared→Prop),s.heap.IsListIter it l i→s.heap.IsList l us→i + k≤us.size →
  (∀ h',h'.IsListIter it l (i + k)→Heap.SameBut it s.heap h'→Q ((us.toList.drop i).take k) { s with heap:=h' })→wpAny (model prog w) A (draw (.ref it) k) Q E s
 | 0,i,s,Q,a,_,_,fin=>by
  have:=fin s.heap a (Heap.SameBut.refl ..)
  rw [List.take_zero] at this
  exact wpAny_pure this
 | k + 1,i,s,Q,a,b,le,fin=>by
  have lt:i < us.size:=by omega
  have at_i:us[i]?=some us[i]:=by simp [lt]
  show wpAny _ _ (pyNext _ >>= _) Q E s
  refine wpAny_bind (wpAny_pyNext_list_item a b at_i fun h1 a1 k1=>?_)
  refine wpAny_bind (wpAny_holding (a8n ne k (i + 1) _ _ a1 (a6Y b k1 ne) (by omega) fun h2 a2 k2=>?_))
  refine wpAny_pure ?_
  have r:=fin h2 (by rw [show i + (k + 1)=i + 1 + k by omega];exact a2) (k1.trans k2)
  rw [List.drop_eq_getElem_cons (by rw [Array.length_toList];exact lt),List.take_succ_cons] at r
  exact r
theorem b1r {l:Addr} {us:Array Value} {Q:List Value→Shared→Prop} (calm:A.handled=none) (b:s.heap.IsList l us) (fin:∀ h',Heap.ExtBut s.heap.objs.size s.heap h'→Q us.toList { s with heap:=h' }) :
  wpAny (model prog w) A (unpackItems (.ref l) us.size none) Q E s:=by
 have ne:l≠s.heap.objs.size:=by
  obtain ⟨o,e,_⟩:=b
  exact Nat.ne_of_lt (Heap.lt_size e)
 unfold unpackItems
 refine wpAny_bind ?_
 unfold notIterableAtAll
 refine wpAny_bind (wpAny_specialOf b.typeIs slot_list_iter.lookup ?_)
 refine wpAny_pure ?_
 simp only [Bool.false_eq_true,if_false]
 refine wpAny_bind (wpAny_holding ?_)
 refine wpAny_pyIter_list b ?_
 have bp:(s.heap.push { cls:=.type "list_iterator",data:=.fields #[.ref l,.int 0 0] }).IsList l us:=by
  obtain ⟨o,e,r⟩:=b
  exact ⟨o,Heap.get?_push_of_some _ e,r⟩
 refine wpAny_bind (wpAny_holding ?_)
 refine a8n ne us.size 0 _ _ ⟨_,Heap.get?_push_size _ rfl,rfl,rfl⟩ bp (by omega) fun h1 a1 k1=>?_
 rw [List.drop_zero,List.take_of_length_le (by simp),if_neg (by simp)]
 refine wpAny_bind (wpAny_holding ?_)
 refine wpAny_pyNext_list_end calm a1 (a6Y bp k1 ne) (by simp) fun h2 k2=>?_
 simp only [Option.isSome_none,Bool.false_eq_true,if_false]
 exact wpAny_pure (fin h2 fun b o hb e=>k2 b o hb (k1.extBut b o hb (Heap.get?_push_of_some _ e)))
theorem b2k {env:Env} {es:List Expr} {x1} {pos:Pos} {l:Addr} {us:Array Value} {Q:Unit→Shared→Prop} (calm:A.handled=none) (b:s.heap.IsList l us) (len:(assignEach es env).length=us.size) (nostar:(assignEach es env).findIdx? (·.1)=none)
  (fin:∀ h',Heap.ExtBut s.heap.objs.size s.heap h'→wpAny (model prog w) A (assignInOrder ((assignEach es env).map (·.2)) us.toList) Q E { s with heap:=h' }):wpAny (model prog w) A (assign (.Tuple es x1 pos) env (.ref l)) Q E s:=by
 rw [assign_Tuple]
 refine wpAny_bind (wpAny_standAt ?_)
 unfold unpack
 rw [len,nostar]
 exact wpAny_bind (wpAny_holding (b1r calm b fin))
end
section
variable {X:Cx} {pos:Pos}
def gLst (K:zbj) (n:Nat) (t:TGs):TG:=fun v σ H Q=>∃ a xs,v=.ref a∧SqL K H a xs∧xs.length=n∧t xs σ H Q
theorem pg_lst {es:List Expr} {k:Nat} {t:TGs} {n:Nat} (calm:X.calm=true) (h:PGs X es t) (len:(assignEach es X.env).length=n) (nostar:(assignEach es X.env).findIdx? (·.1)=none):PG X (.Tuple es k pos) (gLst X.K n t):=by
 constructor
 rintro pins s σ H v u Q inv rel ⟨a,xs,rfl,seq,lx,told⟩
 cases rel
 obtain ⟨its,vals,at_its,_⟩:=inv.list seq
 refine b2k (inv.ok.hd calm) at_its.isList (by simp [len,← lx,vals.length]) nostar fun h' keep=>?_
 have inv2:Inv X pins σ H { s with heap:=h' }:=inv.kept (t':=s.toks) fun b o e=>keep b o (Nat.ne_of_lt (Heap.lt_size e)) e
 exact h.run pins _ σ H xs _ Q inv2 (by simpa using vals) told
end
section
variable {n:SN} {X:Cx} {G:Gm} {W:WX} {k:Nat} {sc:Scope}
theorem c3c (c:XC n X G W k sc) {tg:List Nat} {x:Expr} (calm:X.calm=true) (h:a0U n sc tg false x=true):PG X x (LG G.toGd fun d δ S K=>∃ ds,vw S d=.lst ds∧ds.length=tg.length∧K (a3I δ tg ds) S):=by
 unfold a0U at h
 rw [if_neg zbe] at h
 split at h
 ·rename_i xs kk p
  obtain ⟨h1,h2,h3⟩:=a3B c _ _ h
  refine PG.imp (pg_lst calm h1 h2 h3) ?_
  rintro v σ H Q ⟨d,δ,S,K,R,r,⟨ds,e,l,hk⟩,q⟩
  obtain ⟨p,vs,rfl,hl,hr⟩:=a0k R.ce r e
  rw [c.ok.K] at hl
  refine ⟨p,vs,rfl,hl,by rw [← hr.length];exact l,?_⟩
  exact a4i tg ds vs δ σ Q R hr l fun σ' R'=>q _ _ _ _ hk (a0d.refl _ _) R'
 ·cases h
end
end Sv
namespace Sv
open PySem PySem.Spec PyProof.Rows L2
open L2H (RoomH)
theorem a3L:∀ {es:List Expr} {env:Env} {pos:Pos},es.all a0t=true→(backTo pos (starEach es env)).all (fun x=>!x.1)=true
 | [],_,_,_=>rfl
 | e :: es,env,pos,h=>by
  rw [List.all_cons,zak] at h
  rw [a0g h.1]
  have q:=a3L (env:=env) (pos:=pos) h.2
  simpa [backTo] using q
theorem a6l {o:Expr} {args:List Expr} {name:Str} {apos pos:Pos} {env:Env} (h1:a7U o=true) (h2:args.all a0t=true) (h3:args.length < 30) (h4:(apos.endLine == pos.line)=true) :
  eval (.Call (.Attribute o name apos) args [] pos) env=(do
   let ov ← eval o env
   standAt apos.atName
   let (f,first) ← holding [ov] (getMethod ov name (do return (← importBound o env).getD true))
   callWith pos f first (backTo pos (starEach args env)) (backToKw pos (keywordEach [] env))):=by
 show (do
  let ov ← attributeBase o name env (eval o env)
  standAt apos.atName
  methodCall o name apos pos env ov (args.length + ([]:List Keyword).length) (backTo pos (starEach args env)) (backToKw pos (keywordEach [] env)))=_
 rw [a2L h1]
 have hform:methodCallForm (args.length + ([]:List Keyword).length) (backTo pos (starEach args env)) (backToKw pos (keywordEach [] env))=true:=by
  unfold methodCallForm
  rw [a3L h2]
  show (true && true && decide (args.length + 0 + (if true=true then 0 else 1) < 30))=true
  simpa using h3
 have hpos:methodCallPos true o env apos pos=pure pos:=by unfold methodCallPos;simp [h4]
 congr 1
 funext ov
 congr 1
 funext _
 unfold methodCall
 rw [hform,hpos]
 unfold calleeOf
 simp
end Sv
namespace Sv
open PySem PySem.Spec PyProof.Rows L2
open L2H (RoomH)
def RL.len:RL→Nat
 | .nil=>0 | .cons _ r=>r.len + 1
structure b1p (n:SN) (sc:Scope) (e:RE) (x:Expr):Prop where
 v:∀ X G W k,XC n X G W k sc→PE X x (LE G.toGd W (den G e))
 t:∀ X G W k,XC n X G W k sc→PT X x (LT G.toGd W (a0o G e))
structure a7S (n:SN) (sc:Scope) (es:RL) (xs:List Expr):Prop where
 a:∀ X G W k,XC n X G W k sc→PA X xs (LA G.toGd W (a0p G es))
 and:∀ X G W k pos,XC n X G W k sc→PE X (.BoolOp .And xs pos) (LE G.toGd W (a0Q G es))
 or:∀ X G W k pos,XC n X G W k sc→PE X (.BoolOp .Or xs pos) (LE G.toGd W (a1t G es))
 tand:∀ X G W k pos,XC n X G W k sc→PW X (.BoolOp .And xs pos) (LT G.toGd W (a0J G es))
 tor:∀ X G W k pos,XC n X G W k sc→PW X (.BoolOp .Or xs pos) (LT G.toGd W (a0W G es))
 st:xs.all a0t=true
 nl:xs=[]→es=.nil
 ne:es.len=xs.length
def b3A (n:SN) (sc:Scope) (i:RI) (x:Expr):Prop:=∀ X G W k tg,XC n X G W k sc→G.m0=none→(i.two=true→∃ elts kk tpos,tg=.Tuple elts kk tpos)→PI X tg x (LI G.toGd W (a0P G i))
theorem LE.then {g:Gd} {W:WX} {t:RdE} {σ:L2.St} {H:Hp} {Q Q':VK} (h:LE g W t σ H Q) (w:∀ v H',Q v H'→Q' v H'):LE g W t σ H Q':=by
 obtain ⟨δ,S,Y,K,R,ht,res,rw'⟩:=h
 exact ⟨δ,S,Y,K,R,ht,fun d S1 v H1 k P c r=>w _ _ (res d S1 v H1 k P c r),rw'⟩
theorem LT.then {g:Gd} {W:WX} {t:RdT} {σ:L2.St} {H:Hp} {Q Q':Bool→Hp→Prop} (h:LT g W t σ H Q) (w:∀ v H',Q v H'→Q' v H'):LT g W t σ H Q':=by
 obtain ⟨δ,S,Y,K,R,ht,res,rw'⟩:=h
 exact ⟨δ,S,Y,K,R,ht,fun d S1 v k P c=>w _ _ (res d S1 v k P c),rw'⟩
theorem LA.then {g:Gd} {W:WX} {t:RdL} {σ:L2.St} {H:Hp} {Q Q':List V→Hp→Prop} (h:LA g W t σ H Q) (w:∀ v H',Q v H'→Q' v H'):LA g W t σ H Q':=by
 obtain ⟨δ,S,Y,K,R,ht,res,rw'⟩:=h
 exact ⟨δ,S,Y,K,R,ht,fun d S1 v H1 k P c r=>w _ _ (res d S1 v H1 k P c r),rw'⟩
theorem LE.re {g:Gd} {W:WX} {t t':RdE} {σ:L2.St} {H:Hp} {Q:VK} (h:LE g W t σ H Q) (w:∀ δ S Y K,t δ S Y K→t' δ S Y K):LE g W t' σ H Q:=by
 obtain ⟨δ,S,Y,K,R,ht,res,rw'⟩:=h
 exact ⟨δ,S,Y,K,R,w _ _ _ _ ht,res,rw'⟩
theorem LT.re {g:Gd} {W:WX} {t t':RdT} {σ:L2.St} {H:Hp} {Q:Bool→Hp→Prop} (h:LT g W t σ H Q) (w:∀ δ S Y K,t δ S Y K→t' δ S Y K):LT g W t' σ H Q:=by
 obtain ⟨δ,S,Y,K,R,ht,res,rw'⟩:=h
 exact ⟨δ,S,Y,K,R,w _ _ _ _ ht,res,rw'⟩
section
variable {n:SN} {X:Cx} {G:Gm} {W:WX} {k:Nat} {sc:Scope} {a b c':RE} {l r t:Expr} {pos:Pos} {es:RL} {xs:List Expr}
theorem a3t {g:Gd} {t1:RdL} {t2:List D→RdE} {σ:L2.St} {H:Hp} {Q:VK} (h:LE g W (fun δ S Y K=>t1 δ S Y fun x S1=>t2 x δ S1 Y K) σ H Q) :
  LA g W t1 σ H fun vs H1=>∃ xs δ S Y K,Rel g S H1 δ σ∧a0e g S H1 xs vs∧t2 xs δ S Y K∧Res g S H1 K Q∧a5P g S H1 Y W:=by
 obtain ⟨δ,S,Y,K,R,ht,res,rw'⟩:=h
 exact ⟨δ,S,Y,_,R,ht,fun d S1 v H1 k P c r=>⟨d,δ,S1,Y,K,R.mono P c,r,k,res.mono P,rw'.mono P⟩,rw'⟩
theorem b9r {op:Operator} (c:XC n X G W k sc) (ha:PE X l (LE G.toGd W (den G a))) (hb:PE X r (LE G.toGd W (den G b))):PE X (.BinOp l op r pos) (LE G.toGd W (den G (.bin op a b))) :=
 PE.imp (pe_op (b5j c.ok.K op) ha hb) fun σ H Q h=>by
  rw [den] at h
  exact (a0y (t1:=den G a) (t2:=fun x δ S1 Y K=>den G b δ S1 Y fun y S2=>opD op x y S2 K) h).then fun v H1 q =>
   (a1J (t1:=den G b) (t2:=fun x y δ S2 Y K=>opD op x y S2 K) q).then fun u H2 q=>a5o q
theorem b9p (c:XC n X G W k sc) (ha:PE X l (LE G.toGd W (den G a))) (hb:PE X r (LE G.toGd W (den G b))):PE X (.BinOp l .Add r pos) (LE G.toGd W (den G (.adc a b))) :=
 PE.imp (pe_op (b3F c.ok.K) ha hb) fun σ H Q h=>by
  rw [den] at h
  exact (a0y (t1:=den G a) (t2:=fun x δ S1 Y K=>den G b δ S1 Y fun y S2=>b1q x y S2 K) h).then fun v H1 q =>
   (a1J (t1:=den G b) (t2:=fun x y δ S2 Y K=>b1q x y S2 K) q).then fun u H2 q=>a5o q
theorem c0g (ha:PE X l (LE G.toGd W (den G a))):PE X (.UnaryOp .USub l pos) (LE G.toGd W (den G (.neg a))) :=
 PE.imp (pe_un un_neg ha) fun σ H Q h=>by
  rw [den] at h
  refine (a0y (t1:=den G a) (t2:=fun x δ S1 Y K=>∃ i,x=.int i∧K (.int (-i)) S1) h).then fun v H1 q=>?_
  obtain ⟨x,δ,S,Y,K,R,r,⟨i,rfl,q⟩,res,_⟩:=q
  exact ⟨i,a0f r,res.int q R.ce⟩
theorem c3y (c:XC n X G W k sc) (ha:PE X l (LE G.toGd W (den G a))):PE X (.UnaryOp .Not l pos) (LE G.toGd W (den G (.nt a))) :=
 PE.imp (pe_notT ha) fun σ H Q h=>by
  rw [den] at h
  refine (a0y (t1:=den G a) (t2:=fun x δ S1 Y K=>a1c x S1 fun b=>K (.bl (!b)) S1) h).then fun v H1 q=>?_
  obtain ⟨x,δ,S,Y,K,R,r,q,res,_⟩:=q
  obtain ⟨b,tv,q⟩:=a6w c.ok.K R.ce r q
  exact ⟨b,tv,res.bl q R.ce⟩
theorem c0j (ha:PT X l (LT G.toGd W (a0o G a))):PT X (.UnaryOp .Not l pos) (LT G.toGd W (a0o G (.nt a))) :=
 PT.imp (pt_not ha) fun σ H Q h=>by
  rw [a0o] at h
  obtain ⟨δ,S,Y,K,R,ht,res,rw'⟩:=h
  exact ⟨δ,S,Y,_,R,ht,fun b S' H' k P c=>res _ S' H' k P c,rw'⟩
theorem b93 (hc:PT X t (LT G.toGd W (a0o G c'))) (ha:PE X l (LE G.toGd W (den G a))) (hb:PE X r (LE G.toGd W (den G b))):PE X (.IfExp t l r pos) (LE G.toGd W (den G (.ife c' a b))) :=
 PE.imp (pe_ifExp hc ha hb) fun σ H Q h=>by
  rw [den] at h
  obtain ⟨δ,S,Y,K,R,ht,res,rw'⟩:=h
  refine ⟨δ,S,Y,_,R,ht,fun b S' H' k P c=>?_,rw'⟩
  cases b with
  | true=>exact ⟨δ,S',Y,K,R.mono P c,k,res.mono P,rw'.mono P⟩
  | false=>exact ⟨δ,S',Y,K,R.mono P c,k,res.mono P,rw'.mono P⟩
theorem b9E {op:CmpOp} (c:XC n X G W k sc) (hs:a1R r=true) (ha:PE X l (LE G.toGd W (den G a))) (hb:PE X r (LE G.toGd W (den G b))):PE X (.Compare l [op] [r] pos) (LE G.toGd W (den G (.cmp op a b))) :=
 PE.imp (pe_cmpR (a2J c.ok.K c.un op) ha hb (a1L hs op)) fun σ H Q h=>by
  rw [den] at h
  exact (a0y (t1:=den G a) (t2:=fun x δ S1 Y K=>den G b δ S1 Y fun y S2=>a0G op x y S2 K) h).then fun v H1 q =>
   (a1J (t1:=den G b) (t2:=fun x y δ S2 Y K=>a0G op x y S2 K) q).then fun u H2 q=>a5o q
theorem b5D {op:CmpOp} (c:XC n X G W k sc) (hs:a1R r=true) (ha:PE X l (LE G.toGd W (den G a))) (hb:PE X r (LE G.toGd W (den G b))):PT X (.Compare l [op] [r] pos) (LT G.toGd W (a0o G (.cmp op a b))) :=
 PT.imp (pt_cmpR (a2J c.ok.K c.un op) ha hb (a1L hs op)) fun σ H Q h=>by
  rw [a0o] at h
  have h:=b2g (t:=fun δ S Y K=>den G a δ S Y fun x S1=>den G b δ S1 Y fun y S2=>a0G op x y S2 K) h
  exact (a0y (t1:=den G a) (t2:=fun x δ S1 Y K=>den G b δ S1 Y fun y S2=>a0G op x y S2 K) h).then fun v H1 q =>
   (a1J (t1:=den G b) (t2:=fun x y δ S2 Y K=>a0G op x y S2 K) q).then fun u H2 q=>a5o q
theorem a6L {o1 o2:CmpOp} {σ:L2.St} {H:Hp} {Q:VK} (h:LE G.toGd W (den G (.chn o1 o2 a b c')) σ H Q):tChain (rD2 G.toGd (a0G o1)) (rD2 G.toGd (a0G o2)) (LE G.toGd W (den G a)) (LE G.toGd W (den G b)) (LE G.toGd W (den G c')) σ H Q:=by
 rw [den] at h
 refine (a0y (t1:=den G a) (t2:=fun x δ S1 Y K=>den G b δ S1 Y fun y S2=>a0G o1 x y S2 fun z S3=>∃ k,z=.bl k∧if k=true then den G c' δ S3 Y fun w S4=>a0G o2 y w S4 K else K (.bl false) S3) h).then fun v H1 q=>?_
 refine (a1J (t1:=den G b) (t2:=fun x y δ S2 Y K=>a0G o1 x y S2 fun z S3=>∃ k,z=.bl k∧if k=true then den G c' δ S3 Y fun w S4=>a0G o2 y w S4 K else K (.bl false) S3) q).then fun u H2 q=>?_
 obtain ⟨x,y,δ,S,Y,K,R,r1,r2,ht,res,rw'⟩:=q
 refine ⟨x,y,S,_,R.ce,r1,r2,ht,fun z S3 zv H3 k P c r=>?_⟩
 obtain ⟨b0,rfl,k⟩:=k
 refine ⟨b0,a2A r,?_⟩
 cases b0 with
 | false=>exact (res.mono P).bl k c
 | true=>exact ⟨δ,S3,Y,_,R.mono P c,k,fun w S4 wv H4 k P2 c2 r'=>⟨y,w,S4,K,c2,(r2.mono P).mono P2,r',k,(res.mono P).mono P2⟩,rw'.mono P⟩
theorem b9D {o1 o2:CmpOp} (c:XC n X G W k sc) (hs:a1R t=true) (ha:PE X l (LE G.toGd W (den G a))) (hb:PE X r (LE G.toGd W (den G b))) (hc:PE X t (LE G.toGd W (den G c'))):PE X (.Compare l [o1,o2] [r,t] pos) (LE G.toGd W (den G (.chn o1 o2 a b c'))) :=
 PE.imp (pe_chain (a2J c.ok.K c.un o1) (a2J c.ok.K c.un o2) ha hb hc (by show lastMarks [o2] [t]=false;exact a1L hs o2)) fun σ H Q h=>a6L h
theorem b5C {o1 o2:CmpOp} (c:XC n X G W k sc) (hs:a1R t=true) (ha:PE X l (LE G.toGd W (den G a))) (hb:PE X r (LE G.toGd W (den G b))) (hc:PE X t (LE G.toGd W (den G c'))):PT X (.Compare l [o1,o2] [r,t] pos) (LT G.toGd W (a0o G (.chn o1 o2 a b c'))) :=
 PT.imp (pt_chain (a2J c.ok.K c.un o1) (a2J c.ok.K c.un o2) ha hb hc (by show lastMarks [o2] [t]=false;exact a1L hs o2)) fun σ H Q h=>by
  refine a6L (b2g (t:=den G (.chn o1 o2 a b c')) ?_)
  refine h.re fun δ S Y K q=>?_
  rw [a0o] at q
  rw [den]
  refine q
theorem c0d {cell:Bool} (ha:PA X xs (LA G.toGd W (a0p G es))):PE X (.List xs pos) (LE G.toGd W (den G (.lst cell es))) :=
 PE.imp (pe_lst ha) fun σ H Q h=>by
  rw [den] at h
  refine (a3t (t1:=a0p G es) (t2:=fun ds δ S1 Y K=>ds.length≤sizeLine∧if cell=true then ∀ p,S1 p=none→K (.obj p) (S1.set p (.lst ds)) else K (.lst ds) S1) h).then fun vs H1 q=>?_
  obtain ⟨ds,δ,S,Y,K,R,r,⟨hz,q⟩,res,_⟩:=q
  refine ⟨by rw [← r.length];exact hz,fun p hp=>?_⟩
  cases cell with
  | true=>exact res.lstC q R.ce r hp
  | false=>exact res.lst q R.ce r hp
theorem c0D {kk:Nat} (ha:PA X xs (LA G.toGd W (a0p G es))):PE X (.Tuple xs kk pos) (LE G.toGd W (den G (.tup es))) :=
 PE.imp (pe_tup ha) fun σ H Q h=>by
  rw [den] at h
  refine (a3t (t1:=a0p G es) (t2:=fun ds δ S1 Y K=>ds.length≤sizeLine∧K (.tup ds) S1) h).then fun vs H1 q=>?_
  obtain ⟨ds,δ,S,Y,K,R,r,⟨hz,q⟩,res,_⟩:=q
  exact ⟨by rw [← r.length];exact hz,fun p hp=>res.tup q R.ce r hp⟩
theorem c3v (c:XC n X G W k sc) (hs:a2v r=true) (ha:PE X l (LE G.toGd W (den G a))) (hb:PE X r (LE G.toGd W (den G b))):PE X (.Subscript l r pos) (LE G.toGd W (den G (.ix a b))) :=
 PE.imp (pe_ix (b4W c.ok.K c.un) ha hb (a5v hs)) fun σ H Q h=>by
  rw [den] at h
  exact (a0y (t1:=den G a) (t2:=fun x δ S1 Y K=>den G b δ S1 Y fun y S2=>ixD x y S2 K) h).then fun v H1 q =>
   (a1J (t1:=den G b) (t2:=fun x y δ S2 Y K=>ixD x y S2 K) q).then fun u H2 q=>a5o q
def LO (g:Gd) (W:WX) (t:DS→SS→XD'→(Option Int→SS→Prop)→Prop):TO:=fun σ H Q=>∃ δ S Y K,Rel g S H δ σ∧t δ S Y K∧(∀ o S' H',K o S'→a0d S H S' H'→CellsOk g S' H'→Q o H')∧a5P g S H Y W
theorem PO.imp {e:Option Expr} {t t':TO} (h:PO X e t) (w:∀ σ H Q,t' σ H Q→t σ H Q):PO X e t':=⟨fun pins s σ H Q I q=>h.run pins s σ H Q I (w σ H Q q)⟩
theorem c3A {lo hi:RO} {p q:Option Expr} {p2:Pos} (c:XC n X G W k sc) (ha:PE X l (LE G.toGd W (den G a))) (hl:PO X p (LO G.toGd W (a2o G lo))) (hh:PO X q (LO G.toGd W (a2o G hi))):PE X (.Subscript l (.Slice p q none p2) pos) (LE G.toGd W (den G (.sl a lo hi))) :=
 PE.imp (pe_slice (b5K c.ok.K) ha hl hh) fun σ H Q h=>by
  rw [den] at h
  refine (a0y (t1:=den G a) (t2:=fun x δ S1 Y K=>a2o G lo δ S1 Y fun l S2=>a2o G hi δ S2 Y fun u S3=>slD x l u S3 K) h).then fun v H1 q=>?_
  obtain ⟨x,δ,S,Y,K,R,r,q,res,rw'⟩:=q
  refine ⟨δ,S,Y,_,R,q,fun o S1 H1 k P c=>⟨δ,S1,Y,_,R.mono P c,k,fun o2 S2 H2 k P2 c2=>⟨x,S2,K,c2,(r.mono P).mono P2,k,(res.mono P).mono P2⟩,rw'.mono P⟩,rw'⟩
theorem c0r {lo hi:RO} {p q:Option Expr} {p2:Pos} (c:XC n X G W k sc) (ha:PE X l (LE G.toGd W (den G a))) (hl:PO X p (LO G.toGd W (a2o G lo))) (hh:PO X q (LO G.toGd W (a2o G hi))):PE X (.Subscript l (.Slice p q none p2) pos) (LE G.toGd W (den G (.slc a lo hi))) :=
 PE.imp (pe_slice (b2T c.ok.K) ha hl hh) fun σ H Q h=>by
  rw [den] at h
  refine (a0y (t1:=den G a) (t2:=fun x δ S1 Y K=>a2o G lo δ S1 Y fun l S2=>a2o G hi δ S2 Y fun u S3=>b3l x l u S3 K) h).then fun v H1 q=>?_
  obtain ⟨x,δ,S,Y,K,R,r,q,res,rw'⟩:=q
  refine ⟨δ,S,Y,_,R,q,fun o S1 H1 k P c=>⟨δ,S1,Y,_,R.mono P c,k,fun o2 S2 H2 k P2 c2=>⟨x,S2,K,c2,(r.mono P).mono P2,k,(res.mono P).mono P2⟩,rw'.mono P⟩,rw'⟩
theorem s_call {j:Nat} {x:Str} {p:Pos} (c:XC n X G W k sc) (hn:fnB n.fns j x=true) (hg:glB sc x=true) (hL:a7S n sc es xs):PE X (.Call (.Name x p) xs [] pos) (LE G.toGd W (den G (.call j es))):=by
 cases hT:G.fn G.m0.isSome j with
 | none =>
  refine a0K fun δ S Y K h=>?_
  rw [den] at h
  obtain ⟨T,e,_⟩:=h
  rw [hT] at e;cases e
 | some T =>
  obtain ⟨f,fd,ps,h1,h2,h3,F⟩:=c.ok.fn _ j T x hT (a8v hn).1
  have hs:=hL.st
  have ha:=hL.a X G W k c
  have fin:∀ {σ:L2.St} {H:Hp} {Q:VK},LE G.toGd W (den G (.call j es)) σ H Q→tCallG G.m0 (spD G.toGd T) [] (WE W) (LA G.toGd W (a0p G es)) σ H Q:=by
   intro σ H Q h
   have h:=h.re (t':=fun δ S Y K=>a0p G es δ S Y fun ds S1=>T G.m0 ds S1 K fun C fs S'=>Y C fs δ S') fun δ S Y K q=>by
    rw [den] at q
    obtain ⟨T',e,q⟩:=q
    rw [hT] at e;cases e
    exact q
   refine (a3t (t1:=a0p G es) (t2:=fun ds δ S1 Y K=>T G.m0 ds S1 K fun C fs S'=>Y C fs δ S') h).then fun vs H1 q=>?_
   obtain ⟨ds,δ,S,Y,K,R,r,q,res,rw'⟩:=q
   rw [List.append_nil]
   exact ⟨ds,S,K,_,R.ce,r,q,res,fun C fs S' d H' y P cc x=>rw' C fs δ S' d σ H' y P (R.mono P cc) x⟩
  cases xs with
  | nil =>
   refine PE.imp (a9a F rfl c.rm c.md ⟨c.gl hg,h1,h2,(a8v hn).2⟩ h3 .nil (fun σ=>L2N.passAt c.tk σ)) fun σ H Q h=>?_
   have hes:=hL.nl rfl
   obtain ⟨δ,S,Y,K,R,ht,res,rw'⟩:=fin h
   rw [hes,a0p] at ht
   exact res [] S [] H ht (a0d.refl _ _) R.ce (by simp only [a0e])
  | cons y ys =>
   rw [List.all_cons,zak] at hs
   exact PE.imp (pe_callG F rfl c.rm c.md ⟨c.gl hg,h1,h2,(a8v hn).2⟩ h3 .nil (fun σ=>L2N.passAt c.tk σ) ha (a0g hs.1) (a0T hs.2)) fun σ H Q h=>fin h
theorem b8a (c:XC n X G W k sc) (b:Bn) (hb:b.needs G.m0):∃ f,((∃ id,f=.builtin id)∨∃ T,f=.type T)∧CallR X f (rDc G.toGd b.den)∧bootBuiltins b.nm=some f∧b.nm∈a3Z∧b.nm ≠ "__name__" ∧ (b.nm == ("__debug__" : Str))=false:=by
 have calm:G.m0=none→X.calm=true:=fun e=>by have:=c.md;rw [e] at this;exact this.2
 cases b with
 | len=>exact ⟨_,.inl ⟨"len",rfl⟩,b42 c.ok.K,by decide +kernel,by decide +kernel,by decide +kernel,by decide +kernel⟩
 | abs=>exact ⟨_,.inl ⟨"abs",rfl⟩,b3E,by decide +kernel,by decide +kernel,by decide +kernel,by decide +kernel⟩
 | max=>exact ⟨_,.inl ⟨"max",rfl⟩,b49 (calm hb),by decide +kernel,by decide +kernel,by decide +kernel,by decide +kernel⟩
 | min=>exact ⟨_,.inl ⟨"min",rfl⟩,b5a (calm hb),by decide +kernel,by decide +kernel,by decide +kernel,by decide +kernel⟩
 | rpr=>exact ⟨_,.inl ⟨"repr",rfl⟩,a8f c.ok.K c.md.1 (by have:=c.rm.un;omega),by decide +kernel,by decide +kernel,by decide +kernel,by decide +kernel⟩
 | int=>exact ⟨_,.inr ⟨"int",rfl⟩,int_ok,by decide +kernel,by decide +kernel,by decide +kernel,by decide +kernel⟩
 | tup=>exact ⟨_,.inr ⟨"tuple",rfl⟩,b0M c.ok.K,by decide +kernel,by decide +kernel,by decide +kernel,by decide +kernel⟩
 | lst cell=>cases cell <;> exact ⟨_,.inr ⟨"list",rfl⟩,b2e c.ok.K _,by decide +kernel,by decide +kernel,by decide +kernel,by decide +kernel⟩
 | srt cell=>cases cell <;> exact ⟨_,.inl ⟨"sorted",rfl⟩,a9v (calm hb) c.ok.K _,by decide +kernel,by decide +kernel,by decide +kernel,by decide +kernel⟩
 | dic cell=>cases cell <;> exact ⟨_,.inr ⟨"dict",rfl⟩,b1A _,by decide +kernel,by decide +kernel,by decide +kernel,by decide +kernel⟩
 | dcp cell=>cases cell <;> exact ⟨_,.inr ⟨"dict",rfl⟩,a9Z (calm hb) c.ok.K _,by decide +kernel,by decide +kernel,by decide +kernel,by decide +kernel⟩
 | all=>exact ⟨_,.inl ⟨"all",rfl⟩,b3I (calm hb) c.ok.K,by decide +kernel,by decide +kernel,by decide +kernel,by decide +kernel⟩
 | sum=>exact ⟨_,.inl ⟨"sum",rfl⟩,b6m (calm hb) c.ok.K,by decide +kernel,by decide +kernel,by decide +kernel,by decide +kernel⟩
 | lsk cell=>cases cell <;> exact ⟨_,.inr ⟨"list",rfl⟩,b0i (calm hb) _,by decide +kernel,by decide +kernel,by decide +kernel,by decide +kernel⟩
 | lss cell=>cases cell <;> exact ⟨_,.inr ⟨"list",rfl⟩,b0j (calm hb) _,by decide +kernel,by decide +kernel,by decide +kernel,by decide +kernel⟩
 | str=>exact ⟨_,.inr ⟨"str",rfl⟩,str_ok,by decide +kernel,by decide +kernel,by decide +kernel,by decide +kernel⟩
 | mnl=>exact ⟨_,.inl ⟨"min",rfl⟩,b2j (calm hb) c.ok.K c.un,by decide +kernel,by decide +kernel,by decide +kernel,by decide +kernel⟩
 | srl cell=>cases cell <;> exact ⟨_,.inl ⟨"sorted",rfl⟩,a7M (calm hb) c.ok.K c.un _,by decide +kernel,by decide +kernel,by decide +kernel,by decide +kernel⟩
 | srp cell=>cases cell <;> exact ⟨_,.inl ⟨"sorted",rfl⟩,a7N (calm hb) c.ok.K c.un _,by decide +kernel,by decide +kernel,by decide +kernel,by decide +kernel⟩
theorem c3h {b:Bn} {p:Pos} (c:XC n X G W k sc) (hg:glB sc b.nm=true) (hne:xs.isEmpty=false) (hL:a7S n sc es xs):PE X (.Call (.Name b.nm p) xs [] pos) (LE G.toGd W (den G (.bi b es))):=by
 by_cases hb:b.needs G.m0
 ·obtain ⟨f,hf,hc,hv,hm,hn,hd⟩:=b8a c b hb
  have hs:=hL.st
  cases xs with
  | nil=>cases hne
  | cons y ys =>
   rw [List.all_cons,zak] at hs
   have rule:PE X (.Call (.Name b.nm p) (y :: ys) [] pos) (tCB (rDc G.toGd b.den) (LA G.toGd W (a0p G es))):=by
    rcases hf with ⟨id,rfl⟩ | ⟨T,rfl⟩
    ·exact pe_callB hc (c.gl hg) (c.ok.bt _ hm) hv (hL.a X G W k c) hn hd (a0g hs.1) (a0T hs.2)
    ·exact pe_callTy hc (c.gl hg) (c.ok.bt _ hm) hv (hL.a X G W k c) hn hd (a0g hs.1) (a0T hs.2)
   refine PE.imp rule fun σ H Q h=>?_
   have h:=h.re (t':=fun δ S Y K=>a0p G es δ S Y fun ds S1=>b.den ds S1 K) fun δ S Y K q=>by
    rw [den] at q
    exact q.2
   refine (a3t (t1:=a0p G es) (t2:=fun ds δ S1 Y K=>b.den ds S1 K) h).then fun vs H1 q=>?_
   obtain ⟨ds,δ,S,Y,K,R,r,q,res,_⟩:=q
   exact ⟨ds,S,K,R.ce,r,q,res⟩
 ·refine a0K fun δ S Y K h=>?_
  rw [den] at h
  exact hb h.1
theorem b95 {cn:Cn} {x z:Str} {p p2:Pos} (c:XC n X G W k sc) (ex:x=("isinstance" : Str)) (hg:glB sc x=true) (hz:glB sc z=true) (hst:a0t l=true) (ha:PE X l (LE G.toGd W (den G a)))
  (hc:(match cn with
   | .ty t=>decide (bootBuiltins z=some (.type t)) && decide (z≠("__name__" : Str)) && decide ((z == ("__debug__" : Str))=false) && decide (z∈a3Z)
   | .own j=>nmB n.cls j z)=true):PE X (.Call (.Name x p) [l,.Name z p2] [] pos) (LE G.toGd W (den G (.isi a cn))):=by
 subst ex
 have hcl:∃ cv,PE X (.Name z p2) (tC cv)∧ClsV cv (cn.val G):=by
  cases cn with
  | ty t =>
   simp only [zak,zah] at hc
   obtain ⟨⟨⟨h1,h2⟩,h3⟩,h4⟩:=hc
   exact ⟨.ty t,pe_bltn (c.gl hz) (c.ok.bt _ h4) h1 rfl h2 h3,.ty t⟩
  | own j =>
   have h:=c.ok.cl j z (a0E hc).1
   exact ⟨.ref (G.cl j),pe_glob (c.gl hz) h rfl (a0E hc).2.1,.own _⟩
 obtain ⟨cv,pz,cz⟩:=hcl
 refine PE.imp (pe_callB a9T (c.gl hg) (c.ok.bt _ (by decide +kernel)) (by decide +kernel) (pa_cons ha (pa_cons pz pa_nil rfl) (a0g hst)) (by decide +kernel) (by decide +kernel) (a0g hst) rfl) fun σ H Q h=>?_
 rw [den] at h
 refine (a0y (t1:=den G a) (t2:=fun x δ S1 Y K=>∃ t b,tyD S1 x=some t∧a4S G S1 x∧PySem.W.kitOne G.K t (cn.val G)=some b∧K (.bl b) S1) h).then fun v H1 q=>?_
 obtain ⟨x,δ,S,Y,K,R,r,⟨t,b,e1,e2,e3,q⟩,res,_⟩:=q
 rw [c.ok.K] at e3
 exact ⟨v,cv,t,_,b,rfl,cz,b6v c.ok.K c.md.p R.ce r e1 e2,e3,res.bl q R.ce⟩
theorem a1E {x:D} {v:V} {S:SS} {H:Hp} (hK:G.K=X.K) (cells:CellsOk G.toGd S H) (rep:Rep G.toGd S H x v) (h:a1U x S):tyV X.K "list" v H:=by
 obtain ⟨ds,seen⟩:=h
 obtain ⟨p,vs,rfl,seq,_⟩:=a0k cells rep seen
 rw [hK] at seq
 exact .inl ⟨rfl,vs,seq⟩
theorem a6x {x:D} {v:V} {S:SS} {H:Hp} (rep:Rep G.toGd S H x v) (h:a5k x):tyV X.K "str" v H:=by
 obtain ⟨z,rfl⟩:=h
 cases a0u rep
 exact rfl
theorem a4T {x:D} {v:V} {S:SS} {H:Hp} (cells:CellsOk G.toGd S H) (rep:Rep G.toGd S H x v) (h:a4c x S):tyV X.K "dict" v H:=by
 obtain ⟨p,kvs,rfl,at_p⟩:=h
 cases a0q rep
 obtain ⟨ws,here,_⟩:=cells p _ at_p
 exact .inr (.inr (.inl ⟨rfl,.inl ⟨ws,here⟩⟩))
theorem b87 (c:XC n X G W k sc) (b:Mn):∃ T id,PlainAttrs T∧Slot T b.nm id∧typeOf (.builtin id)=pure (.type "method_descriptor")∧MtR X id (rDm G.toGd b.den)∧∀ x v S H,CellsOk G.toGd S H→Rep G.toGd S H x v→b.rc x S→tyV X.K T v H:=by
 have un:=c.un
 cases b with
 | join=>exact ⟨_,_,PySem.F.plainAttrs_str,PySem.F.slot_str_join,PySem.F.type_str_join,b1X c.ok.K,fun _ _ _ _ _ r h=>a6x r h⟩
 | upper=>exact ⟨_,_,PySem.F.plainAttrs_str,PySem.F.slot_str_upper,PySem.F.type_str_upper,b0O,fun _ _ _ _ _ r h=>a6x r h⟩
 | app=>exact ⟨_,_,PySem.F.plainAttrs_list,PySem.F.slot_list_append,PySem.F.type_list_append,app_ok,fun _ _ _ _ q r h=>a1E c.ok.K q r h⟩
 | ins=>exact ⟨_,_,PySem.F.plainAttrs_list,PySem.F.slot_list_insert,PySem.F.type_list_insert,b4S,fun _ _ _ _ q r h=>a1E c.ok.K q r h⟩
 | pop=>exact ⟨_,_,PySem.F.plainAttrs_list,PySem.F.slot_list_pop,PySem.F.type_list_pop,b5w,fun _ _ _ _ q r h=>a1E c.ok.K q r h⟩
 | clr=>exact ⟨_,_,PySem.F.plainAttrs_list,PySem.F.slot_list_clear,PySem.F.type_list_clear,a9U,fun _ _ _ _ q r h=>a1E c.ok.K q r h⟩
 | cnt=>exact ⟨_,_,PySem.F.plainAttrs_list,PySem.F.slot_list_count,PySem.F.type_list_count,b3S c.ok.K un,fun _ _ _ _ q r h=>a1E c.ok.K q r h⟩
 | dpop=>exact ⟨_,_,PySem.F.plainAttrs_dict,PySem.F.slot_dict_pop,PySem.F.type_dict_pop,b1C,fun _ _ _ _ q r h=>a4T q r h⟩
 | upd=>exact ⟨_,_,PySem.F.plainAttrs_dict,PySem.F.slot_dict_update,PySem.F.type_dict_update,b6x,fun _ _ _ _ q r h=>a4T q r h⟩
 | dget=>exact ⟨_,_,PySem.F.plainAttrs_dict,PySem.F.slot_dict_get,PySem.F.type_dict_get,b1y (by omega),fun _ _ _ _ q r h=>b0N q r h⟩
 | dset=>exact ⟨_,_,PySem.F.plainAttrs_dict,PySem.F.slot_dict_setdefault,PySem.F.type_dict_setdefault,b1E,fun _ _ _ _ q r h=>a4T q r h⟩
 | dpop2=>exact ⟨_,_,PySem.F.plainAttrs_dict,PySem.F.slot_dict_pop,PySem.F.type_dict_pop,a90,fun _ _ _ _ q r h=>a4T q r h⟩
 | idx=>exact ⟨_,_,PySem.F.plainAttrs_list,PySem.F.slot_list_index,PySem.F.type_list_index,b4R c.ok.K,fun _ _ _ _ q r h=>a1E c.ok.K q r h⟩
 | rem=>exact ⟨_,_,PySem.F.plainAttrs_list,PySem.F.slot_list_remove,PySem.F.type_list_remove,b5z,fun _ _ _ _ q r h=>a1E c.ok.K q r h⟩
 | ext=>exact ⟨_,_,PySem.F.plainAttrs_list,PySem.F.slot_list_extend,PySem.F.type_list_extend,b4x,fun _ _ _ _ q r h=>a1E c.ok.K q r h⟩
 | spl=>exact ⟨_,_,PySem.F.plainAttrs_str,PySem.F.slot_str_split,PySem.F.type_str_split,b0E,fun _ _ _ _ _ r h=>a6x r h⟩
theorem b4z {es:List Expr} {env:Env} {p:Pos} (st:es.all a0t=true) (few:es.length < 30):((backTo p (starEach es env)).all (fun x=>!x.1) && (backToKw p (keywordEach [] env)).all (fun x=>x.1.isSome) && decide (es.length + ([]:List Keyword).length + (if ([]:List Keyword).isEmpty then 0 else 1) < 30))=true:=by
 rw [a3L st]
 show (true && true && decide (es.length + 0 + 0 < 30))=true
 simpa using few
theorem a6U {g:Gd} {t1:RdL} {t2:D→List D→RdE} {σ:L2.St} {H:Hp} {Q:VK} {v:V} (h:LE1 g W (fun x δ S Y K=>t1 δ S Y fun ds S1=>t2 x ds δ S1 Y K) v σ H Q) :
  LA g W t1 σ H fun vs H1=>∃ x ds δ S Y K,Rel g S H1 δ σ∧Rep g S H1 x v∧a0e g S H1 ds vs∧t2 x ds δ S Y K∧Res g S H1 K Q∧a5P g S H1 Y W:=by
 obtain ⟨x,δ,S,Y,K,R,r0,ht,res,rw'⟩:=h
 exact ⟨δ,S,Y,_,R,ht,fun d S1 u H1 k P c r=>⟨x,d,δ,S1,Y,K,R.mono P c,r0.mono P,r,k,res.mono P,rw'.mono P⟩,rw'⟩
theorem c0f {b:Mn} {ap:Pos} (c:XC n X G W k sc) (hs:a7U l=true) (hl:(ap.endLine == pos.line)=true) (few:xs.length < 30) (ha:PE X l (LE G.toGd W (den G a))) (hL:a7S n sc es xs):PE X (.Call (.Attribute l b.nm ap) xs [] pos) (LE G.toGd W (den G (.mth b a es))):=by
 obtain ⟨T,id,pa,slot,ty,rule,typed⟩:=b87 c b
 have st:=hL.st
 have split:∀ {σ H Q},LE G.toGd W (den G (.mth b a es)) σ H Q→LE G.toGd W (den G a) σ H fun v H1=>tyV X.K T v H1∧LA G.toGd W (a0p G es) σ H1 fun vs H2=>rDm G.toGd b.den v vs H2 Q:=fun {σ H Q} h=>by
  rw [den] at h
  refine (a0y (t1:=den G a) (t2:=fun x δ S1 Y K=>b.rc x S1∧a0p G es δ S1 Y fun ds S2=>b.den x ds S2 K) h).then fun v H1 q=>?_
  obtain ⟨x,δ,S,Y,K,R,r,⟨rc,q⟩,res,rw'⟩:=q
  refine ⟨typed x v S H1 R.ce r rc,?_⟩
  refine (a6U (t1:=a0p G es) (t2:=fun x ds δ S2 Y K=>b.den x ds S2 K) ⟨x,δ,S,Y,K,R,r,q,res,rw'⟩).then fun vs H2 q=>?_
  obtain ⟨x,ds,δ,S,Y,K,R,r0,r1,q,res,_⟩:=q
  exact ⟨x,ds,S,K,R.ce,r0,r1,q,res⟩
 cases xs with
 | nil =>
  have hes:=hL.nl rfl
  refine PE.imp (pe_bm0 pa slot ty rule ha (a2L hs) hl) fun σ H Q h=>(split h).then fun v H1 q=>⟨q.1,?_⟩
  obtain ⟨δ,S,Y,K,R,ht,res,_⟩:=q.2
  rw [hes,a0p] at ht
  exact res [] S [] H1 ht (a0d.refl _ _) R.ce (by simp only [a0e])
 | cons y ys =>
  have st2:=st
  rw [List.all_cons,zak] at st2
  exact PE.imp (pe_bm pa slot ty rule ha (hL.a X G W k c) (a2L hs) (b4z st few) hl (a0g st2.1) (a0T st2.2)) fun σ H Q h=>split h
theorem c3z {j:Nat} {m:Str} {ap:Pos} (c:XC n X G W k sc) (hs:a7U l=true) (hl:(ap.endLine == pos.line)=true) (few:xs.length < 30) (hm:mtB n.fns j m=true) (ha:PE X l (LE G.toGd W (den G a))) (hL:a7S n sc es xs) :
  PE X (.Call (.Attribute l m ap) xs [] pos) (LE G.toGd W (den G (.om j m a es))):=by
 cases hT:G.fn G.m0.isSome j with
 | none =>
  refine a0K fun δ S Y K h=>?_
  rw [den] at h
  obtain ⟨T,e,_⟩:=h
  rw [hT] at e;cases e
 | some T =>
  obtain ⟨C0,at_j⟩:=b5b hm
  obtain ⟨f,fd,ps,cls,is,binds,F⟩:=c.ok.meth _ j T C0 m hT at_j
  have st:=hL.st
  have split:∀ {σ H Q},LE G.toGd W (den G (.om j m a es)) σ H Q→LE G.toGd W (den G a) σ H fun x H1=>∃ p dx fs,x=.ref p∧H1 p=some (.ins (G.mc j) dx fs)∧fs.lookup m=none∧LA G.toGd W (a0p G es) σ H1 fun vs H2=>spD G.toGd T G.m0 (x :: vs) H2 Q (WE W σ):=fun {σ H Q} h=>by
   have h:=h.re (t':=fun δ S Y K=>den G a δ S Y fun x S1=>∃ p,omD G j m x S1 p∧a0p G es δ S1 Y fun ds S2=>T G.m0 (.obj p :: ds) S2 K fun C fs S'=>Y C fs δ S') fun δ S Y K q=>by
    rw [den] at q
    obtain ⟨T',e,q⟩:=q
    rw [hT] at e;cases e
    exact q
   refine (a0y (t1:=den G a) (t2:=fun x δ S1 Y K=>∃ p,omD G j m x S1 p∧a0p G es δ S1 Y fun ds S2=>T G.m0 (.obj p :: ds) S2 K fun C fs S'=>Y C fs δ S') h).then fun v H1 q=>?_
   obtain ⟨x,δ,S,Y,K,R,r,⟨p,⟨rfl,fs,at_p,free⟩,q⟩,res,rw'⟩:=q
   cases a0q r
   obtain ⟨dx,ws,here,fields⟩:=R.ce p _ at_p
   refine ⟨p,dx,ws,rfl,here,a9k fields free,?_⟩
   refine (a6U (t1:=a0p G es) (t2:=fun x ds δ S2 Y K=>T G.m0 (x :: ds) S2 K fun C fs S'=>Y C fs δ S') ⟨.obj p,δ,S,Y,K,R,r,q,res,rw'⟩).then fun vs H2 q=>?_
   obtain ⟨x,ds,δ,S,Y,K,R,r0,r1,q,res,rw'⟩:=q
   exact ⟨x :: ds,S,K,_,R.ce,by simp only [a0e];exact ⟨_,_,rfl,r0,r1⟩,q,res,fun C fs S' d H' y P cc z=>rw' C fs δ S' d σ H' y P (R.mono P cc) z⟩
  cases xs with
  | nil =>
   have hes:=hL.nl rfl
   refine PE.imp (b5s F rfl c.rm c.md cls is binds (fun σ=>L2N.passAt c.tk σ) ha (a6l hs rfl few hl)) fun σ H Q h=>(split h).then fun v H1 q=>?_
   obtain ⟨p,dx,fs,e,here,free,q⟩:=q
   refine ⟨p,dx,fs,e,here,free,?_⟩
   obtain ⟨δ,S,Y,K,R,ht,res,_⟩:=q
   rw [hes,a0p] at ht
   exact res [] S [] H1 ht (a0d.refl _ _) R.ce (by simp only [a0e])
  | cons y ys =>
   have st2:=st
   rw [List.all_cons,zak] at st2
   exact PE.imp (b9g F rfl c.rm c.md cls is binds (fun σ=>L2N.passAt c.tk σ) ha (hL.a X G W k c) (a6l hs st few hl) (a0g st2.1) (a0T st2.2)) fun σ H Q h=>split h
theorem c3x {j:Nat} {y:Str} {p:Pos} (c:XC n X G W k sc) (hj:enB n.fns j (.mt y "__init__")=true) (hd:(y == ("__debug__" : Str))=false) (hg:glB sc y=true) (hL:a7S n sc es xs):PE X (.Call (.Name y p) xs [] pos) (LE G.toGd W (den G (.mk j es))):=by
 by_cases hm:G.m0=none
 ·cases hT:G.fn false j with
  | none =>
   refine a0K fun δ S Y K h=>?_
   rw [den] at h
   obtain ⟨_,T,e,_⟩:=h
   rw [hT] at e;cases e
  | some T =>
   obtain ⟨at_y,f,fd,ps,kI,M,binds,hk,F⟩:=c.ok.made j T y hT (of_decide_eq_true hj)
   have mode:a02 X none:=by have:=c.md;rw [hm] at this;exact this
   have st:=hL.st
   have fin:∀ {σ H Q},LE G.toGd W (den G (.mk j es)) σ H Q→b2Z (G.mc j) (spD G.toGd T) (WE W) (LA G.toGd W (a0p G es)) σ H Q:=fun {σ H Q} h=>by
    have h:=h.re (t':=fun δ S Y K=>a0p G es δ S Y fun ds S1=>∀ p,S1 p=none→T none (.obj p :: ds) (S1.set p (.ins (G.mc j) [])) (fun d S'=>d=.non∧K (.obj p) S') fun C fs S'=>Y C fs δ S') fun δ S Y K q=>by
     rw [den] at q
     obtain ⟨_,T',e,q⟩:=q
     rw [hT] at e;cases e
     exact q
    refine (a3t (t1:=a0p G es) (t2:=fun ds δ S1 Y K=>∀ p,S1 p=none→T none (.obj p :: ds) (S1.set p (.ins (G.mc j) [])) (fun d S'=>d=.non∧K (.obj p) S') fun C fs S'=>Y C fs δ S') h).then fun vs H1 q x dx fx fd apart=>?_
    obtain ⟨ds,δ,S,Y,K,R,r,q,res,rw'⟩:=q
    have young:upd H1 dx (.own x) x=none:=by rw [upd_ne (Ne.symm apart)];exact fx
    have P1:a0d S H1 S (upd H1 dx (.own x)):=a0d.new fd
    have P:a0d S H1 (S.set x (.ins (G.mc j) [])) (upd (upd H1 dx (.own x)) x (.ins (G.mc j) dx [])):=P1.trans (a0d.newC young)
    have cells:CellsOk G.toGd (S.set x (.ins (G.mc j) [])) (upd (upd H1 dx (.own x)) x (.ins (G.mc j) dx [])):=(R.ce.new fd).newC young ⟨dx,[],upd_same,by simp only [a1Q]⟩
    exact ⟨.obj x :: ds,_,_,_,cells,by simp only [a0e];exact ⟨_,_,rfl,by simp only [Rep],r.mono P⟩,q x (R.ce.free fx),fun d S' v H' kk P2 c2 r2=>by
     obtain ⟨rfl,kk⟩:=kk
     exact ⟨a4J r2,res _ S' _ H' kk (P.trans P2) c2 (by simp only [Rep])⟩,fun C fs S' d H' y P2 cc z=>rw' C fs δ S' d σ H' y (P.trans P2) (R.mono (P.trans P2) cc) z⟩
   cases xs with
   | nil =>
    have hes:=hL.nl rfl
    refine PE.imp (b5p M F (c.rm.mono hk) mode (c.gl hg) at_y hd binds (fun σ=>L2N.passAt c.tk σ)) fun σ H Q h=>?_
    obtain ⟨δ,S,Y,K,R,ht,res,_⟩:=fin h
    rw [hes,a0p] at ht
    exact res [] S [] H ht (a0d.refl _ _) R.ce (by simp only [a0e])
   | cons z zs =>
    rw [List.all_cons,zak] at st
    exact PE.imp (pe_mk M F (c.rm.mono hk) mode (c.gl hg) at_y hd binds (fun σ=>L2N.passAt c.tk σ) (hL.a X G W k c) (a0g st.1) (a0T st.2)) fun σ H Q h=>fin h
 ·refine a0K fun δ S Y K h=>?_
  rw [den] at h
  exact hm h.1
theorem c0a {x:Expr} (ha:PE X x (LE G.toGd W (den G a))):PE X x (LE G.toGd W (den G (.lck a))) :=
 PE.imp (pe_lock ha) fun σ H Q h=>by
  obtain ⟨δ,S,Y,K,R,ht,res,rw'⟩:=h
  rw [den] at ht
  obtain ⟨d,kvs,at_d,ht⟩:=ht
  obtain ⟨ws,here,all⟩:=R.ce d _ at_d
  refine ⟨d,_,here,trivial,fun od=>?_⟩
  have P:a0d S H (S.set d (.loc kvs)) (upd H d (.frz od (.dK ws))):=a0d.write at_d
  refine ⟨δ,_,Y,_,R.mono P (R.ce.lock at_d here all),ht,fun x S1 v H1 kk P1 c1 r1=>⟨(PostW.unlock at_d P1).2,?_⟩,rw'.mono P⟩
  exact res _ _ v _ kk (a0d.unlock at_d P1) (CellsOk.unlock at_d all P1 c1) (r1.monoW (.write (PostW.unlock at_d P1).1))
theorem c3p {x:Expr} (ha:PE X x (LE G.toGd W (den G a))):PE X x (LE G.toGd W (den G (.fz a))) :=
 PE.imp ha fun σ H Q h=>by
  obtain ⟨δ,S,Y,K,R,ht,res,rw'⟩:=h
  rw [den] at ht
  refine ⟨δ,S,Y,_,R,ht,fun d S1 v H1 kk P c r=>?_,rw'⟩
  obtain ⟨p,rfl,⟨ds,at_p,q⟩ | ⟨ds,at_p,q⟩⟩:=kk
  ·cases a0q r
   exact res _ _ _ _ q (P.trans (a0d.freeze at_p)) (c.freeze at_p) (Rep.freeze c at_p)
  ·cases a0q r
   exact res _ _ _ _ q (P.trans (a0d.freeze at_p)) (c.freeze at_p) (Rep.freezeK c at_p)
theorem b92 {i:Nat} {x:Expr} (ha:PE X x (LE G.toGd W (den G a))):PE X x (LE G.toGd W (den G (.fzt i a))) :=
 PE.imp ha fun σ H Q h=>by
  obtain ⟨δ,S,Y,K,R,ht,res,rw'⟩:=h
  rw [den] at ht
  refine ⟨δ,S,Y,_,R,ht,fun d S1 v H1 kk P c r=>?_,rw'⟩
  obtain ⟨ds,p,l,rfl,at_i,at_p,q⟩:=kk
  refine res _ _ _ _ q (P.trans (a0d.freeze at_p)) (c.freeze at_p) ?_
  have r1:=r.mono (a0d.freeze at_p)
  simp only [Rep] at r1 ⊢
  obtain ⟨T,vs,rfl,at_T,all⟩:=r1
  refine ⟨T,vs,rfl,at_T,?_⟩
  obtain ⟨w,hw,rw2⟩:=all.get at_i
  cases a0q rw2
  have:=all.set (i:=i) (Rep.freeze c at_p)
  have e:vs.set i (V.ref p)=vs:=by
   apply List.ext_getElem?
   intro j
   by_cases e:i=j
   ·subst e;rw [List.getElem?_set_self (List.getElem?_eq_some_iff.mp hw).1,hw]
   ·rw [List.getElem?_set_ne e]
  rw [e] at this
  exact this
theorem c0m {x y:Str} {p p2 cp:Pos} (c:XC n X G W k sc) (ex:x=("sorted" : Str)) (hg:glB sc x=true) (ey:y=("set" : Str)) (hg2:glB sc y=true) (hn:a0t l=true) (ha:PE X l (LE G.toGd W (den G a))) :
  PE X (.Call (.Name x p) [.Call (.Name y p2) [l] [] cp] [] pos) (LE G.toGd W (den G (.ofi a))):=by
 subst ex ey
 by_cases hm:G.m0=none
 ·have calm:X.calm=true:=by have:=c.md;rw [hm] at this;exact this.2
  refine PE.imp (b5q calm (c.gl hg) (c.ok.bt _ (by decide +kernel)) (c.gl hg2) (c.ok.bt _ (by decide +kernel)) ha (a0g hn)) fun σ H Q h=>?_
  have h:=h.re (t':=fun δ S Y K=>den G a δ S Y fun x S1=>∃ zs:List Int,vw S1 x=.lst (zs.map D.int)∧zs.length < 64∧∀ ns:List Int,ns.Pairwise (· < ·)→(∀ k,k∈ns↔k∈zs)→K (.lst (ns.map D.int)) S1) fun δ S Y K q=>by
   rw [den] at q
   exact q.2
  refine (a0y (t1:=den G a) (t2:=fun x δ S1 Y K=>∃ zs:List Int,vw S1 x=.lst (zs.map D.int)∧zs.length < 64∧∀ ns:List Int,ns.Pairwise (· < ·)→(∀ k,k∈ns↔k∈zs)→K (.lst (ns.map D.int)) S1) h).then fun v H1 q=>?_
  obtain ⟨x,δ,S,Y,K,R,r,⟨zs,seen,few,q⟩,res,_⟩:=q
  obtain ⟨d,ws,rfl,seq,all⟩:=a0k R.ce r seen
  rw [c.ok.K] at seq
  cases a3F zs all
  exact ⟨d,zs,rfl,seq,few,fun ns q' hs hm free=>res.outL (cell:=false) (q ns hs hm) R.ce (a5i _) free⟩
 ·refine a0K fun δ S Y K h=>?_
  rw [den] at h
  exact hm h.1
theorem c0n {srt:Bool} {x y:Str} {p p2 cp:Pos} (c:XC n X G W k sc) (ex:x=b5h srt) (hg:glB sc x=true) (ey:y=("set" : Str)) (hg2:glB sc y=true) (hn:a0t l=true) (ha:PE X l (LE G.toGd W (den G a))) :
  PE X (.Call (.Name x p) [.Call (.Name y p2) [l] [] cp] [] pos) (LE G.toGd W (den G (.ofs srt a))):=by
 subst ex ey
 by_cases hm:G.m0=none
 ·have calm:X.calm=true:=by have:=c.md;rw [hm] at this;exact this.2
  refine PE.imp (b5r calm (c.gl hg) (c.ok.bt _ (by cases srt <;> decide +kernel)) (c.gl hg2) (c.ok.bt _ (by decide +kernel)) ha (a0g hn)) fun σ H Q h=>?_
  have h:=h.re (t':=fun δ S Y K=>den G a δ S Y fun x S1=>∃ zs:List Str,vw S1 x=.lst (zs.map D.str)∧(zs.length < 64∨((uniq zs).length < 64∧zs.length < 1000))∧if srt=true then ∃ cell,outL cell ((a0i (uniq zs)).map D.str) S1 K else K (.int ((uniq zs).length:Nat)) S1) fun δ S Y K q=>by
   rw [den] at q
   exact q.2
  refine (a0y (t1:=den G a) (t2:=fun x δ S1 Y K=>∃ zs:List Str,vw S1 x=.lst (zs.map D.str)∧(zs.length < 64∨((uniq zs).length < 64∧zs.length < 1000))∧if srt=true then ∃ cell,outL cell ((a0i (uniq zs)).map D.str) S1 K else K (.int ((uniq zs).length:Nat)) S1) h).then fun v H1 q=>?_
  obtain ⟨x,δ,S,Y,K,R,r,⟨zs,seen,few,q⟩,res,_⟩:=q
  obtain ⟨d,ws,rfl,seq,all⟩:=a0k R.ce r seen
  rw [c.ok.K] at seq
  cases a1B zs all
  refine ⟨d,zs,rfl,seq,few,?_⟩
  cases srt with
  | true =>
   obtain ⟨cell,q⟩:=q
   exact fun q' free=>res.outL (cell:=cell) q R.ce (a2D _) free
  | false=>exact res.int q R.ce
 ·refine a0K fun δ S Y K h=>?_
  rw [den] at h
  exact hm h.1
theorem c0E {cell:Bool} {x m:Str} {p cp ap:Pos} (c:XC n X G W k sc) (ex:x=("list" : Str)) (hg:glB sc x=true) (em:m=("values" : Str)) (hs:a7U l=true) (hl:(ap.endLine == cp.line)=true) (ha:PE X l (LE G.toGd W (den G a))) :
  PE X (.Call (.Name x p) [.Call (.Attribute l m ap) [] [] cp] [] pos) (LE G.toGd W (den G (.vls cell a))):=by
 subst ex em
 by_cases hm:G.m0=none
 ·have calm:X.calm=true:=by have:=c.md;rw [hm] at this;exact this.2
  refine PE.imp (b2G calm ha (c.gl hg) (c.ok.bt _ (by decide +kernel)) (a2L hs) hl) fun σ H Q h=>?_
  have h:=h.re (t':=fun δ S Y K=>den G a δ S Y fun x S1=>∃ p kvs,x=.obj p∧S1 p=some (.dic kvs)∧outL cell (kvs.map (·.2)) S1 K) fun δ S Y K q=>by
   rw [den] at q
   exact q.2
  refine (a0y (t1:=den G a) (t2:=fun x δ S1 Y K=>∃ p kvs,x=.obj p∧S1 p=some (.dic kvs)∧outL cell (kvs.map (·.2)) S1 K) h).then fun v H1 q=>?_
  obtain ⟨x,δ,S,Y,K,R,r,⟨d,kvs,rfl,at_d,q⟩,res,_⟩:=q
  cases a0q r
  obtain ⟨ws,here,all⟩:=R.ce d _ at_d
  exact ⟨d,ws,rfl,here,fun q' free=>res.outL q R.ce (a9n all) free⟩
 ·refine a0K fun δ S Y K h=>?_
  rw [den] at h
  exact hm h.1
theorem c0p {cell:Bool} {kk:Nat} {p1 p2 p3:Pos} (c:XC n X G W k sc) (ha:PE X l (LE G.toGd W (den G a))):PE X (.Subscript l (.Slice none none (some (.UnaryOp .USub (.Constant (.int 1) kk p1) p2)) p3) pos) (LE G.toGd W (den G (.rev cell a))) :=
 PE.imp (pe_revL ha) fun σ H Q h=>by
  rw [den] at h
  refine (a0y (t1:=den G a) (t2:=fun x δ S1 Y K=>∃ ds,vw S1 x=.lst ds∧outL cell ds.reverse S1 K) h).then fun v H1 q=>?_
  obtain ⟨x,δ,S,Y,K,R,r,⟨ds,seen,q⟩,res,_⟩:=q
  obtain ⟨p,vs,rfl,seq,all⟩:=a0k R.ce r seen
  rw [c.ok.K] at seq
  exact ⟨p,vs,rfl,seq,fun q' free=>res.outL q R.ce all.reverse free⟩
theorem c0q {j kk:Nat} {lo:Option Expr} {p2 p3:Pos} (c:XC n X G W k sc) (hlo:loE j lo=true) (ha:PE X l (LE G.toGd W (den G a))):PE X (.Subscript l (.Slice lo none (some (.Constant (.int 2) kk p2)) p3) pos) (LE G.toGd W (den G (.sl2 j a))) :=
 PE.imp (b5o ha hlo) fun σ H Q h=>by
  rw [den] at h
  refine (a0y (t1:=den G a) (t2:=fun x δ S1 Y K=>∃ ds,vw S1 x=.lst ds∧K (.lst (ev2 j ds)) S1) h).then fun v H1 q=>?_
  obtain ⟨x,δ,S,Y,K,R,r,⟨ds,seen,q⟩,res,_⟩:=q
  obtain ⟨p,vs,rfl,seq,all⟩:=a0k R.ce r seen
  rw [c.ok.K] at seq
  exact ⟨p,vs,rfl,seq,fun q' free=>res.lst q R.ce (b0z all j) free⟩
def c3e (g:Gd) (p:Addr) (kvs:List (Key × D)):R2:=fun v u H Q=>∃ y S K,CellsOk g S H∧v=.ref p∧Rep g S H y u∧(∃ z d,y=.str z∧valD kvs (.inr z)=some d∧K d S)∧Res g S H K Q
theorem b1T {g:Gd} {p:Addr} {kvs:List (Key × D)} (hK:g.K=X.K) (T:b6C X.K X.w p kvs):IxR X (c3e g p kvs):=by
 intro value slice pins s σ H v1 v2 u1 u2 Q I r1 r2 h hs
 obtain ⟨y,S,K,hc,rfl,ry,⟨z,d,rfl,e,k⟩,res⟩:=h
 cases a0u ry
 obtain ⟨es,n,D,at_⟩:=T
 have h:=at_ z
 rw [e] at h
 obtain ⟨u,v,e1,e2,e3⟩:=h
 have eg:(⟨X.K⟩:Gd)=g:=by cases g;cases hK;rfl
 rw [eg] at e3
 exact ix_kdict value slice pins s σ H _ _ _ _ Q I r1 r2 ⟨p,z,v,rfl,rfl,⟨es,n,u,D.at_,D.lit,e1,e2⟩,res.val k hc (e3 S H)⟩ hs
def c3f (g:Gd) (p:Addr) (kvs:List (Key × D)) (neg:Bool):R2:=fun u v H Q=>∃ y S K,CellsOk g S H∧v=.ref p∧Rep g S H y u∧(∃ z,y=.str z∧K (.bl (neg ^^ (valD kvs (.inr z)).isSome)) S)∧Res g S H K Q
theorem a8A {g:Gd} {p:Addr} {kvs:List (Key × D)} (T:b6C X.K X.w p kvs):∀ neg:Bool,OpR X (compareOp (if neg=true then CmpOp.NotIn else CmpOp.In)) (c3f g p kvs neg):=by
 intro neg pins s σ H u1 v1 u2 v2 Q I r1 r2 h
 obtain ⟨y,S,K,hc,rfl,ry,⟨z,rfl,k⟩,res⟩:=h
 cases a0u ry
 obtain ⟨es,n,D,at_⟩:=T
 have h:=at_ z
 have key:∃ r,PySem.W.nsIn X.K p z=some r∧r.isSome=(valD kvs (.inr z)).isSome:=by
  cases e:valD kvs (.inr z) with
  | none=>rw [e] at h;exact ⟨none,h,rfl⟩
  | some d =>
   rw [e] at h
   obtain ⟨u,v,e1,_⟩:=h
   exact ⟨some u,e1,rfl⟩
 obtain ⟨r,e,er⟩:=key
 rw [← er] at k
 cases neg with
 | false =>
  rw [Bool.false_xor] at k
  exact op_in_kd D pins s σ H _ _ _ _ Q I r1 r2 ⟨z,r,rfl,rfl,e,res.bl k hc⟩
 | true =>
  rw [Bool.true_xor] at k
  exact op_notIn_kd D pins s σ H _ _ _ _ Q I r1 r2 ⟨z,r,rfl,rfl,e,res.bl k hc⟩
theorem b98 {j:Nat} {y:Str} {p1:Pos} (c:XC n X G W k sc) (hn:nmB n.gvs j y=true) (hg:glB sc y=true) (hs:a2v r=true) (ha:PE X r (LE G.toGd W (den G a))):PE X (.Subscript (.Name y p1) r pos) (LE G.toGd W (den G (.kix j a))):=by
 cases e:G.kd j with
 | none =>
  refine ⟨fun pins s σ H Q I h=>?_⟩
  obtain ⟨δ,S,Y,K,R,ht,_⟩:=h
  rw [den] at ht
  obtain ⟨_,e',_⟩:=ht
  rw [e] at e'
  cases e'
 | some kvs =>
  obtain ⟨p,h1,T⟩:=c.ok.kd j y kvs (a0E hn).1 e
  refine PE.imp (pe_ix (b1T c.ok.K T) (pe_glob (v:=.ref p) (c.gl hg) h1 rfl (a0E hn).2.1) ha (a5v hs)) fun σ H Q h=>?_
  obtain ⟨δ,S,Y,K,R,ht,res,rw'⟩:=h
  rw [den] at ht
  obtain ⟨kvs',e',q⟩:=ht
  rw [e] at e'
  cases e'
  exact ⟨δ,S,Y,_,R,q,fun x S1 v1 H1 kk P cc r=>⟨x,S1,K,cc,rfl,r,kk,res.mono P⟩,rw'⟩
theorem b96 {neg:Bool} {j:Nat} {y:Str} {p1:Pos} (c:XC n X G W k sc) (hn:nmB n.gvs j y=true) (hg:glB sc y=true) (ha:PE X l (LE G.toGd W (den G a))):PE X (.Compare l [if neg=true then CmpOp.NotIn else CmpOp.In] [.Name y p1] pos) (LE G.toGd W (den G (.kin neg j a))):=by
 cases e:G.kd j with
 | none =>
  refine ⟨fun pins s σ H Q I h=>?_⟩
  obtain ⟨δ,S,Y,K,R,ht,_⟩:=h
  rw [den] at ht
  obtain ⟨_,e',_⟩:=ht
  rw [e] at e'
  cases e'
 | some kvs =>
  obtain ⟨p,h1,T⟩:=c.ok.kd j y kvs (a0E hn).1 e
  refine PE.imp (pe_cmpR (a8A (g:=G.toGd) T neg) ha (pe_glob (v:=.ref p) (c.gl hg) h1 rfl (a0E hn).2.1) (a1L (e:=.Name y p1) rfl _)) fun σ H Q h=>?_
  obtain ⟨δ,S,Y,K,R,ht,res,rw'⟩:=h
  rw [den] at ht
  obtain ⟨kvs',e',q⟩:=ht
  rw [e] at e'
  cases e'
  exact ⟨δ,S,Y,_,R,q,fun x S1 v1 H1 kk P cc r=>⟨x,S1,K,cc,rfl,r,kk,res.mono P⟩,rw'⟩
theorem b5E {neg:Bool} {j:Nat} {y:Str} {p1:Pos} (c:XC n X G W k sc) (hn:nmB n.gvs j y=true) (hg:glB sc y=true) (ha:PE X l (LE G.toGd W (den G a))):PT X (.Compare l [if neg=true then CmpOp.NotIn else CmpOp.In] [.Name y p1] pos) (LT G.toGd W (a0o G (.kin neg j a))):=by
 cases e:G.kd j with
 | none =>
  refine ⟨fun pins s σ H Q I h=>?_⟩
  obtain ⟨δ,S,Y,K,R,ht,_⟩:=h
  rw [a0o] at ht
  obtain ⟨_,e',_⟩:=ht
  rw [e] at e'
  cases e'
 | some kvs =>
  obtain ⟨p,h1,T⟩:=c.ok.kd j y kvs (a0E hn).1 e
  refine PT.imp (pt_cmpR (a8A (g:=G.toGd) T neg) ha (pe_glob (v:=.ref p) (c.gl hg) h1 rfl (a0E hn).2.1) (a1L (e:=.Name y p1) rfl _)) fun σ H Q h=>?_
  rw [a0o] at h
  have h:=b2g (t:=fun δ S Y K=>∃ kvs,G.kd j=some kvs∧den G a δ S Y fun x S1=>∃ z,x=.str z∧K (.bl (neg ^^ (valD kvs (.inr z)).isSome)) S1) h
  obtain ⟨δ,S,Y,K,R,⟨kvs',e',q⟩,res,rw'⟩:=h
  rw [e] at e'
  cases e'
  exact ⟨δ,S,Y,_,R,q,fun x S1 v1 H1 kk P cc r=>⟨x,S1,K,cc,rfl,r,kk,res.mono P⟩,rw'⟩
end
end Sv
namespace Sv
open PySem PySem.Spec PyProof.Rows L2
open L2H (RoomH)
section
variable {g:Gd} {S1:SS} {H1:Hp}
theorem a99 {d:D} {v:V} {ds:List D} {a:Addr} (e:v=.ref a) (r:Rep g S1 H1 d v):a71 g S1 H1 (Itl g.K a) ds fun S'=>vw S' d=.lst ds:=by
 subst e
 have get:∀ {S H},a0d S1 H1 S H→CellsOk g S H→vw S d=.lst ds→∃ vs,SqL g.K H a vs∧a0e g S H ds vs:=fun {S H} P c ok=>by
  obtain ⟨p,vs,e,hl,hr⟩:=a0k c (r.mono P) ok
  cases e
  exact ⟨vs,hl,hr⟩
 refine ⟨fun i S H hi P c ok=>?_,fun i S H x H' d' hd P c ok y=>?_,fun i S H hi P c ok=>?_⟩
 ·obtain ⟨vs,hl,hr⟩:=get P c ok
  have:=hr.length
  exact ⟨vs,vs[i]'(by omega),hl,by simp⟩
 ·obtain ⟨vs,hl,hr⟩:=get P c ok
  obtain ⟨e,y⟩:=y
  subst e
  obtain ⟨w,hw,rw'⟩:=hr.get hd
  have:=y vs hl
  rw [hw] at this
  cases this
  exact ⟨a0d.refl _ _,c,rw'⟩
 ·obtain ⟨vs,hl,hr⟩:=get P c ok
  exact ⟨vs,hl,by rw [← hr.length];exact hi⟩
theorem b0b {d:D} {v:V} {ds:List D} {a:Addr} (e:v=.ref a) (r:Rep g S1 H1 d v) (ed:vw S1 d=.tup ds):a71 g S1 H1 (Itt g.K a) ds fun S'=>True:=by
 subst e
 have ed':=a6A ed
 subst ed'
 have get:∀ {S H},a0d S1 H1 S H→∃ vs,SqT g.K H a vs∧a0e g S H ds vs:=fun {S H} P=>by
  obtain ⟨p,vs,e,hl,hr⟩:=a0C (S:=S) (d:=.tup ds) (r.mono P) rfl
  cases e
  exact ⟨vs,hl,hr⟩
 refine ⟨fun i S H hi P c ok=>?_,fun i S H x H' d' hd P c ok y=>?_,fun i S H hi P c ok=>?_⟩
 ·obtain ⟨vs,hl,hr⟩:=get P
  have:=hr.length
  exact ⟨vs,vs[i]'(by omega),hl,by simp⟩
 ·obtain ⟨vs,hl,hr⟩:=get P
  obtain ⟨e,y⟩:=y
  subst e
  obtain ⟨w,hw,rw'⟩:=hr.get hd
  have:=y vs hl
  rw [hw] at this
  cases this
  exact ⟨a0d.refl _ _,c,rw'⟩
 ·obtain ⟨vs,hl,hr⟩:=get P
  exact ⟨vs,hl,by rw [← hr.length];exact hi⟩
theorem a08 {lo:Int} {n:Nat}:(a6s lo n).length=n:=by simp [a6s]
theorem a4L {lo:Int} {n i:Nat} {d:D} (h:(a6s lo n)[i]?=some d):i < n∧d=.int (lo + (i:Int)):=by
 unfold a6s at h
 rw [zbh] at h
 cases e:(List.range n)[i]? with
 | none=>rw [e] at h;cases h
 | some j =>
  rw [e] at h
  cases h
  obtain ⟨h1,h2⟩:=List.getElem?_eq_some_iff.mp e
  rw [List.getElem_range] at h2
  subst h2
  exact ⟨by simpa using h1,rfl⟩
theorem a6S {lo:Int} {n:Nat}:a71 g S1 H1 (Itr lo n) (a6s lo n) fun S'=>True:=by
 refine ⟨fun i S H hi P c ok=>?_,fun i S H x H' d' hd P c ok y=>?_,fun i S H hi P c ok=>?_⟩
 ·rw [a08] at hi;exact hi
 ·obtain ⟨e,y⟩:=y
  subst e y
  obtain ⟨_,rfl⟩:=a4L hd
  exact ⟨a0d.refl _ _,c,by simp only [Rep]⟩
 ·rw [a08] at hi;exact hi
theorem b0a {z:Str}:a71 g S1 H1 (Its z) (a0x z) fun S'=>True:=by
 have len:(a0x z).length=z.cps.size:=by unfold a0x;rw [zag,Array.length_toList]
 refine ⟨fun i S H hi P c ok=>?_,fun i S H x H' d' hd P c ok y=>?_,fun i S H hi P c ok=>?_⟩
 ·rw [len] at hi;exact hi
 ·obtain ⟨rfl,code,at_i,rfl⟩:=y
  unfold a0x at hd
  rw [zbh,Array.getElem?_toList,at_i] at hd
  cases hd
  exact ⟨a0d.refl _ _,c,by simp only [Rep]⟩
 ·rw [len] at hi;exact hi
theorem a1y {ds:List D}:(a1x ds).length=ds.length:=by unfold a1x;rw [zag,List.length_zipIdx]
theorem a4x {ds:List D} {i:Nat} {d:D} (h:(a1x ds)[i]?=some d):∃ e,ds[i]?=some e∧d=.tup [.int (i:Nat),e]:=by
 unfold a1x at h
 rw [zbh,List.getElem?_zipIdx] at h
 cases q:ds[i]? with
 | none=>rw [q] at h;cases h
 | some e=>rw [q] at h;cases h;exact ⟨e,rfl,by simp⟩
theorem a3f {S:SS} {H:Hp} {T:Addr} {d e:D} {v u:V} (c:CellsOk g S H) (free:H T=none) (r1:Rep g S H d v) (r2:Rep g S H e u):a0d S H S (upd H T (.tup [v,u]))∧CellsOk g S (upd H T (.tup [v,u]))∧Rep g S (upd H T (.tup [v,u])) (.tup [d,e]) (.ref T):=by
 have P:a0d S H S (upd H T (.tup [v,u])):=a0d.new free
 refine ⟨P,c.new free,?_⟩
 simp only [Rep,a0e]
 exact ⟨T,_,rfl,.inl ⟨c.free free,upd_same⟩,v,_,rfl,r1.mono P,u,_,rfl,r2.mono P,rfl⟩
theorem a8E {d:D} {v:V} {ds:List D} {a:Addr} (e:v=.ref a) (r:Rep g S1 H1 d v):a71 g S1 H1 (Ite g.K a) (a1x ds) fun S'=>vw S' d=.lst ds:=by
 subst e
 have get:∀ {S H},a0d S1 H1 S H→CellsOk g S H→vw S d=.lst ds→∃ vs,SqL g.K H a vs∧a0e g S H ds vs:=fun {S H} P c ok=>by
  obtain ⟨p,vs,e,hl,hr⟩:=a0k c (r.mono P) ok
  cases e
  exact ⟨vs,hl,hr⟩
 refine ⟨fun i S H hi P c ok=>?_,fun i S H x H' d' hd P c ok y=>?_,fun i S H hi P c ok=>?_⟩
 ·obtain ⟨vs,hl,hr⟩:=get P c ok
  have same:=hr.length
  rw [a1y] at hi
  exact ⟨vs,vs[i]'(by omega),hl,by simp⟩
 ·obtain ⟨vs,hl,hr⟩:=get P c ok
  obtain ⟨T,x0,rfl,free,rfl,at_i⟩:=y
  obtain ⟨e0,he,rfl⟩:=a4x hd
  obtain ⟨w,hw,rw'⟩:=hr.get he
  have:=at_i vs hl
  rw [hw] at this
  cases this
  exact a3f c free (by simp only [Rep]) rw'
 ·obtain ⟨vs,hl,hr⟩:=get P c ok
  rw [a1y] at hi
  exact ⟨vs,hl,by rw [← hr.length];exact hi⟩
theorem a3S:∀ {xs ys:List D},(a1S xs ys).length=min xs.length ys.length
 | [],_=>by simp [a1S]
 | _ :: _,[]=>by simp [a1S]
 | _ :: xs,_ :: ys=>by simp only [a1S,zaz,a3S (xs:=xs) (ys:=ys)];omega
theorem a7u:∀ {xs ys:List D} {i:Nat} {d:D},(a1S xs ys)[i]?=some d→∃ x y,xs[i]?=some x∧ys[i]?=some y∧d=.tup [x,y]
 | [],_,_,_,h=>by simp [a1S] at h
 | _ :: _,[],_,_,h=>by simp [a1S] at h
 | x :: xs,y :: ys,0,d,h=>by
  simp only [a1S,List.getElem?_cons_zero,Option.some.injEq] at h
  exact ⟨x,y,rfl,rfl,h.symm⟩
 | x :: xs,y :: ys,i + 1,d,h=>by
  simp only [a1S,List.getElem?_cons_succ] at h ⊢
  exact a7u h
theorem a2R {t:Bool} {S:SS} {H:Hp} {xs:List D} {a:Addr} (c:CellsOk g S H) (r:Rep g S H (sqv t xs) (.ref a)):∃ vs,SqB g.K t H a vs∧a0e g S H xs vs:=by
 cases t
 ·obtain ⟨p,vs,e,hl,hr⟩:=a0k (S:=S) (d:=.lst xs) c r rfl
  cases e
  exact ⟨vs,hl,hr⟩
 ·obtain ⟨p,vs,e,hl,hr⟩:=a0C (S:=S) (d:=.tup xs) r rfl
  cases e
  exact ⟨vs,hl,hr⟩
theorem b1a {t:Bool} {S:SS} {H:Hp} {xs:List D} {v:V} (c:CellsOk g S H) (r:Rep g S H (sqv t xs) v):∃ a,v=.ref a:=by
 cases t
 ·obtain ⟨p,vs,e,_⟩:=a0k (S:=S) (d:=.lst xs) c r rfl
  exact ⟨p,e⟩
 ·obtain ⟨p,vs,e,_⟩:=a0C (S:=S) (d:=.tup xs) r rfl
  exact ⟨p,e⟩
theorem b0c {t1 t2:Bool} {xs ys:List D} {a b:Addr} (r1:Rep g S1 H1 (sqv t1 xs) (.ref a)) (r2:Rep g S1 H1 (sqv t2 ys) (.ref b)):a71 g S1 H1 (b7x g.K t1 a t2 b) (a1S xs ys) fun _=>True:=by
 refine ⟨fun i S H hi P c ok=>?_,fun i S H x H' d' hd P c ok y=>?_,fun i S H hi P c ok=>?_⟩
 ·obtain ⟨vs,hl,hr⟩:=a2R c (r1.mono P)
  obtain ⟨us,hl2,hr2⟩:=a2R c (r2.mono P)
  have l1:=hr.length
  have l2:=hr2.length
  rw [a3S] at hi
  exact ⟨vs,us,vs[i]'(by omega),us[i]'(by omega),hl,hl2,by simp,by simp⟩
 ·obtain ⟨vs,hl,hr⟩:=a2R c (r1.mono P)
  obtain ⟨us,hl2,hr2⟩:=a2R c (r2.mono P)
  obtain ⟨T,x0,y0,rfl,free,rfl,at1,at2⟩:=y
  obtain ⟨e1,e2,h1,h2,rfl⟩:=a7u hd
  obtain ⟨w1,hw1,q1⟩:=hr.get h1
  obtain ⟨w2,hw2,q2⟩:=hr2.get h2
  have k1:=at1 vs hl
  rw [hw1] at k1
  cases k1
  have k2:=at2 us hl2
  rw [hw2] at k2
  cases k2
  exact a3f c free q1 q2
 ·obtain ⟨vs,hl,hr⟩:=a2R c (r1.mono P)
  obtain ⟨us,hl2,hr2⟩:=a2R c (r2.mono P)
  have l1:=hr.length
  have l2:=hr2.length
  rw [a3S] at hi
  exact ⟨vs,us,hl,hl2,by omega⟩
theorem a7D {v:V} {ds:List D} {a:Addr} (e:v=.ref a) (r:Rep g S1 H1 (.tup ds) v):a71 g S1 H1 (b7w g.K a) (a1x ds) fun _=>True:=by
 subst e
 have get:∀ {S H},a0d S1 H1 S H→∃ vs,SqT g.K H a vs∧a0e g S H ds vs:=fun {S H} P=>by
  obtain ⟨p,vs,e,hl,hr⟩:=a0C (S:=S) (d:=.tup ds) (r.mono P) rfl
  cases e
  exact ⟨vs,hl,hr⟩
 refine ⟨fun i S H hi P c ok=>?_,fun i S H x H' d' hd P c ok y=>?_,fun i S H hi P c ok=>?_⟩
 ·obtain ⟨vs,hl,hr⟩:=get P
  have same:=hr.length
  rw [a1y] at hi
  exact ⟨vs,vs[i]'(by omega),hl,by simp⟩
 ·obtain ⟨vs,hl,hr⟩:=get P
  obtain ⟨T,x0,rfl,free,rfl,at_i⟩:=y
  obtain ⟨e0,he,rfl⟩:=a4x hd
  obtain ⟨w,hw,rw'⟩:=hr.get he
  have:=at_i vs hl
  rw [hw] at this
  cases this
  exact a3f c free (by simp only [Rep]) rw'
 ·obtain ⟨vs,hl,hr⟩:=get P
  rw [a1y] at hi
  exact ⟨vs,hl,by rw [← hr.length];exact hi⟩
theorem a7i {S:SS} {H:Hp} (k:Key):Rep g S H (keyV k) (kV k):=by
 cases k <;> simp only [keyV,kV,Rep]
theorem a4E {S:SS} {H:Hp} {a:Addr} {kvs:List (Key × D)} {ws:List (Key × V)} {o:Obj} (at_a:S1 a=some (.loc kvs)) (here:H1 a=some (.frz o (.dK ws))) (all:a0L g S1 H1 kvs ws) (P:a0d S1 H1 S H):H a=some (.frz o (.dK ws))∧a0L g S H kvs ws :=
 ⟨(P.lk a kvs _ at_a here).2,all.mono P⟩
theorem a9l {S:SS} {H:Hp} {kvs:List (Key × D)} {ws:List (Key × V)} {i:Nat} {p:Key × D} (r:a0L g S H kvs ws) (e:kvs[i]?=some p):∃ w,ws[i]?=some (p.1,w)∧Rep g S H p.2 w:=by
 obtain ⟨q,e2,same,like⟩:=a9g (a0R r) e
 obtain ⟨k,w⟩:=q
 cases same
 exact ⟨w,e2,like⟩
theorem a8F {a:Addr} {kvs:List (Key × D)} {ws:List (Key × V)} {o:Obj} (at_a:S1 a=some (.loc kvs)) (here:H1 a=some (.frz o (.dK ws))) (all:a0L g S1 H1 kvs ws):a71 g S1 H1 (Itk a o ws) (kvs.map fun kv=>keyV kv.1) fun S'=>True:=by
 have same:kvs.length=ws.length:=Paired.length (a0R all)
 refine ⟨fun i S H hi P c ok=>?_,fun i S H x H' d' hd P c ok y=>?_,fun i S H hi P c ok=>?_⟩
 ·rw [zag] at hi
  exact ⟨(a4E at_a here all P).1,by omega⟩
 ·obtain ⟨rfl,k,v,at_i,rfl⟩:=y
  rw [zbh,zam] at hd
  obtain ⟨p,hp,rfl⟩:=hd
  obtain ⟨w,hw,_⟩:=a9l all hp
  rw [at_i] at hw
  cases hw
  exact ⟨a0d.refl _ _,c,a7i _⟩
 ·rw [zag] at hi
  exact ⟨(a4E at_a here all P).1,by omega⟩
theorem a7E {a:Addr} {kvs:List (Key × D)} {ws:List (Key × V)} {o:Obj} (at_a:S1 a=some (.loc kvs)) (here:H1 a=some (.frz o (.dK ws))) (all:a0L g S1 H1 kvs ws):a71 g S1 H1 (Iti a o ws) (kvs.map fun kv=>.tup [keyV kv.1,kv.2]) fun S'=>True:=by
 have same:kvs.length=ws.length:=Paired.length (a0R all)
 refine ⟨fun i S H hi P c ok=>?_,fun i S H x H' d' hd P c ok y=>?_,fun i S H hi P c ok=>?_⟩
 ·rw [zag] at hi
  exact ⟨(a4E at_a here all P).1,by omega⟩
 ·obtain ⟨T,k,v,at_i,rfl,free,rfl⟩:=y
  rw [zbh,zam] at hd
  obtain ⟨p,hp,rfl⟩:=hd
  obtain ⟨w,hw,like⟩:=a9l (all.mono P) hp
  rw [at_i] at hw
  cases hw
  exact a3f c free (a7i _) like
 ·rw [zag] at hi
  exact ⟨(a4E at_a here all P).1,by omega⟩
end
section
variable {n:SN} {X:Cx} {G:Gm} {W:WX} {k:Nat} {sc:Scope} {a b c':RE} {l r t:Expr} {pos:Pos} {es:RL} {xs:List Expr}
theorem a9K {tg:Expr} {g:Gd} {t1:RdE} {t2:D→RdI} {σ:L2.St} {H:Hp} {R:It→Hp→Prop} (h:LI g W (fun δ S Y K=>t1 δ S Y fun x S1=>t2 x δ S1 Y K) σ H R) :
  LE g W t1 σ H fun v H1=>∃ x δ S Y K,Rel g S H1 δ σ∧Rep g S H1 x v∧t2 x δ S Y K∧(∀ ds ok S' H' J,K ds ok S'→a0d S H1 S' H'→CellsOk g S' H'→a71 g S' H' J ds ok→R J H')∧a5P g S H1 Y W:=by
 obtain ⟨δ,S,Y,K,R0,ht,res,rw'⟩:=h
 exact ⟨δ,S,Y,_,R0,ht,fun d S1 v H1 k P c r=>⟨d,δ,S1,Y,K,R0.mono P c,r,k,fun ds ok S' H' J q P2=>res ds ok S' H' J q (P.trans P2),rw'.mono P⟩,rw'⟩
theorem b8S {tg:Expr} (c:XC n X G W k sc) (ha:PE X l (LE G.toGd W (den G a))):PI X tg l (LI G.toGd W (a0P G (.lst a))) :=
 PI.imp (pi_list ha) fun σ H R h=>by
  have h:LI G.toGd W (fun δ S Y K=>den G a δ S Y fun d S1=>∃ ds,vw S1 d=.lst ds∧K ds (fun S'=>vw S' d=.lst ds) S1) σ H R:=by
   obtain ⟨δ,S,Y,K,R,ht,q⟩:=h
   rw [a0P] at ht
   exact ⟨δ,S,Y,K,R,ht,q⟩
  refine (a9K (tg:=tg) (t1:=den G a) (t2:=fun d δ S1 Y K=>∃ ds,vw S1 d=.lst ds∧K ds (fun S'=>vw S' d=.lst ds) S1) h).then fun v H1 q=>?_
  obtain ⟨x,δ,S,Y,K,R,r,⟨ds,e,q⟩,res,_⟩:=q
  obtain ⟨p,vs,rfl,hl,hr⟩:=a0k R.ce r e
  rw [c.ok.K] at hl
  refine ⟨p,rfl,⟨vs,hl⟩,?_⟩
  have:=res ds _ S H1 _ q (a0d.refl _ _) R.ce (a99 rfl r)
  rwa [c.ok.K] at this
theorem b8U {tg:Expr} (c:XC n X G W k sc) (ha:PE X l (LE G.toGd W (den G a))):PI X tg l (LI G.toGd W (a0P G (.tup a))) :=
 PI.imp (pi_tup ha) fun σ H R h=>by
  have h:LI G.toGd W (fun δ S Y K=>den G a δ S Y fun d S1=>∃ ds,vw S1 d=.tup ds∧K ds (fun S'=>True) S1) σ H R:=by
   obtain ⟨δ,S,Y,K,R,ht,q⟩:=h
   rw [a0P] at ht
   exact ⟨δ,S,Y,K,R,ht,q⟩
  refine (a9K (tg:=tg) (t1:=den G a) (t2:=fun d δ S1 Y K=>∃ ds,vw S1 d=.tup ds∧K ds (fun S'=>True) S1) h).then fun v H1 q=>?_
  obtain ⟨x,δ,S,Y,K,R,r,⟨ds,e,q⟩,res,_⟩:=q
  obtain ⟨p,vs,rfl,hl,hr⟩:=a0C r e
  rw [c.ok.K] at hl
  refine ⟨p,rfl,⟨vs,hl⟩,?_⟩
  have:=res ds _ S H1 _ q (a0d.refl _ _) R.ce (b0b rfl r e)
  rwa [c.ok.K] at this
theorem b4O {tg:Expr} {p:Pos} (c:XC n X G W k sc) (hg:glB sc "range" = true) (hs:a0t l=true) (ha:PE X l (LE G.toGd W (den G a))):PI X tg (.Call (.Name "range" p) [l] [] pos) (LI G.toGd W (a0P G (.rng1 a))) :=
 PI.imp (pi_range1 (c.gl hg) (c.ok.bt _ (by decide +kernel)) (pa_cons ha pa_nil (a0g hs)) (a0g hs)) fun σ H R h=>by
  have h:LI G.toGd W (fun δ S Y K=>den G a δ S Y fun d S1=>∃ j,d=.int j∧-(2 ^ 62)≤j∧j < 2 ^ 62∧K (a6s 0 j.toNat) (fun _=>True) S1) σ H R:=by
   obtain ⟨δ,S,Y,K,R,ht,q⟩:=h
   rw [a0P] at ht
   exact ⟨δ,S,Y,K,R,ht,q⟩
  refine (a9K (tg:=tg) (t1:=den G a) (t2:=fun d δ S1 Y K=>∃ j,d=.int j∧-(2 ^ 62)≤j∧j < 2 ^ 62∧K (a6s 0 j.toNat) (fun _=>True) S1) h).then fun v H1 q=>?_
  obtain ⟨x,δ,S,Y,K,R,r,⟨j,rfl,h1,h2,q⟩,res,_⟩:=q
  cases a0f r
  exact ⟨j,rfl,h1,h2,res _ _ S H1 _ q (a0d.refl _ _) R.ce a6S⟩
theorem b4P {tg:Expr} {p:Pos} (c:XC n X G W k sc) (hg:glB sc "range" = true) (hs:a0t l=true) (hs2:a0t r=true) (ha:PE X l (LE G.toGd W (den G a))) (hb:PE X r (LE G.toGd W (den G b))):PI X tg (.Call (.Name "range" p) [l,r] [] pos) (LI G.toGd W (a0P G (.rng2 a b))) :=
 PI.imp (pi_range2 (c.gl hg) (c.ok.bt _ (by decide +kernel)) (pa_cons ha (pa_cons hb pa_nil (a0g hs2)) (a0g hs)) (by rw [a0g hs,a0g hs2];rfl) (by rw [a0g hs2];rfl)) fun σ H R h=>by
  have h:LI G.toGd W (fun δ S Y K=>den G a δ S Y fun d S1=>den G b δ S1 Y fun d2 S2=>∃ i j,d=.int i∧d2=.int j∧(-(2 ^ 62)≤i∧i < 2 ^ 62∧-(2 ^ 62)≤j∧j < 2 ^ 62)∧K (a6s i (j - i).toNat) (fun _=>True) S2) σ H R:=by
   obtain ⟨δ,S,Y,K,R,ht,q⟩:=h
   rw [a0P] at ht
   exact ⟨δ,S,Y,K,R,ht,q⟩
  refine (a9K (tg:=tg) (t1:=den G a) (t2:=fun d δ S1 Y K=>den G b δ S1 Y fun d2 S2=>∃ i j,d=.int i∧d2=.int j∧(-(2 ^ 62)≤i∧i < 2 ^ 62∧-(2 ^ 62)≤j∧j < 2 ^ 62)∧K (a6s i (j - i).toNat) (fun _=>True) S2) h).then fun v H1 q=>?_
  obtain ⟨x,δ,S,Y,K,R,r,q,res,rw'⟩:=q
  refine ⟨δ,S,Y,_,R,q,fun d S1 v2 H2 kk P cc r2=>?_,rw'⟩
  obtain ⟨i,j,rfl,rfl,hb,q⟩:=kk
  cases a0f r
  cases a0f r2
  exact ⟨i,j,rfl,hb,res _ _ S1 H2 _ q P cc a6S⟩
theorem a8Q {g:Gd} {t t':RdI} {σ:L2.St} {H:Hp} {R:It→Hp→Prop} (h:LI g W t σ H R) (w:∀ δ S Y K,t δ S Y K→t' δ S Y K):LI g W t' σ H R:=by
 obtain ⟨δ,S,Y,K,R0,ht,q⟩:=h
 exact ⟨δ,S,Y,K,R0,w _ _ _ _ ht,q⟩
theorem b8T {tg:Expr} (ha:PE X l (LE G.toGd W (den G a))):PI X tg l (LI G.toGd W (a0P G (.str a))) :=
 PI.imp (pi_str ha) fun σ H R h=>by
  refine (a9K (tg:=tg) (t1:=den G a) (t2:=fun d δ S1 Y K=>∃ z,d=.str z∧K (a0x z) (fun _=>True) S1) (a8Q h fun δ S Y K q=>by rw [a0P] at q;exact q)).then fun v H1 q=>?_
  obtain ⟨x,δ,S,Y,K,R,r,⟨z,rfl,q⟩,res,_⟩:=q
  exact ⟨z,a0u r,res _ _ S H1 _ q (a0d.refl _ _) R.ce b0a⟩
theorem b4N {tg:Expr} (ha:PE X l (LE G.toGd W (den G a))):PI X tg l (LI G.toGd W (a0P G (.keys a))) :=
 PI.imp (pi_keys ha) fun σ H R h=>by
  refine (a9K (tg:=tg) (t1:=den G a) (t2:=fun d δ S1 Y K=>∃ a kvs,d=.obj a∧S1 a=some (.loc kvs)∧K (kvs.map fun kv=>keyV kv.1) (fun _=>True) S1) (a8Q h fun δ S Y K q=>by rw [a0P] at q;exact q)).then fun v H1 q=>?_
  obtain ⟨x,δ,S,Y,K,R,r,⟨d,kvs,rfl,at_d,q⟩,res,_⟩:=q
  cases a0q r
  obtain ⟨ws,o,here,all⟩:=R.ce d _ at_d
  exact ⟨d,o,rfl,.inl ⟨ws,here,res _ _ S H1 _ q (a0d.refl _ _) R.ce (a8F at_d here all)⟩⟩
theorem b1N {elts:List Expr} {kk:Nat} {tpos cp ap:Pos} (hs:a7U l=true) (hl:(ap.endLine == cp.line)=true) (ha:PE X l (LE G.toGd W (den G a))):PI X (.Tuple elts kk tpos) (.Call (.Attribute l "items" ap) [] [] cp) (LI G.toGd W (a0P G (.items a))) :=
 PI.imp (pi_items ha (a2L hs) hl) fun σ H R h=>by
  refine (a9K (tg:=.Tuple elts kk tpos) (t1:=den G a) (t2:=fun d δ S1 Y K=>∃ a kvs,d=.obj a∧S1 a=some (.loc kvs)∧K (kvs.map fun kv=>.tup [keyV kv.1,kv.2]) (fun _=>True) S1) (a8Q h fun δ S Y K q=>by rw [a0P] at q;exact q)).then fun v H1 q=>?_
  obtain ⟨x,δ,S,Y,K,R,r,⟨d,kvs,rfl,at_d,q⟩,res,_⟩:=q
  cases a0q r
  obtain ⟨ws,o,here,all⟩:=R.ce d _ at_d
  exact ⟨d,o,ws,rfl,here,res _ _ S H1 _ q (a0d.refl _ _) R.ce (a7E at_d here all)⟩
theorem b4M {elts:List Expr} {kk:Nat} {tpos p:Pos} (c:XC n X G W k sc) (hg:glB sc "enumerate" = true) (hs:a0t l=true) (ha:PE X l (LE G.toGd W (den G a))):PI X (.Tuple elts kk tpos) (.Call (.Name "enumerate" p) [l] [] pos) (LI G.toGd W (a0P G (.enum a))) :=
 PI.imp (pi_enum (c.gl hg) (c.ok.bt _ (by decide +kernel)) (pa_cons ha pa_nil (a0g hs)) (a0g hs)) fun σ H R h=>by
  refine (a9K (tg:=.Tuple elts kk tpos) (t1:=den G a) (t2:=fun d δ S1 Y K=>∃ ds,vw S1 d=.lst ds∧K (a1x ds) (fun S'=>vw S' d=.lst ds) S1) (a8Q h fun δ S Y K q=>by rw [a0P] at q;exact q)).then fun v H1 q=>?_
  obtain ⟨x,δ,S,Y,K,R,r,⟨ds,e,q⟩,res,_⟩:=q
  obtain ⟨p,vs,rfl,hl,hr⟩:=a0k R.ce r e
  rw [c.ok.K] at hl
  refine ⟨p,vs,rfl,hl,?_⟩
  have:=res (a1x ds) _ S H1 _ q (a0d.refl _ _) R.ce (a8E rfl r)
  rwa [c.ok.K] at this
theorem b1M {elts:List Expr} {kk:Nat} {tpos p:Pos} (c:XC n X G W k sc) (hg:glB sc "enumerate" = true) (hs:a0t l=true) (ha:PE X l (LE G.toGd W (den G a))):PI X (.Tuple elts kk tpos) (.Call (.Name "enumerate" p) [l] [] pos) (LI G.toGd W (a0P G (.enumt a))) :=
 PI.imp (b0r (c.gl hg) (c.ok.bt _ (by decide +kernel)) (pa_cons ha pa_nil (a0g hs)) (a0g hs)) fun σ H R h=>by
  refine (a9K (tg:=.Tuple elts kk tpos) (t1:=den G a) (t2:=fun d δ S1 Y K=>∃ ds,d=.tup ds∧K (a1x ds) (fun _=>True) S1) (a8Q h fun δ S Y K q=>by rw [a0P] at q;exact q)).then fun v H1 q=>?_
  obtain ⟨x,δ,S,Y,K,R,r,⟨ds,rfl,q⟩,res,_⟩:=q
  obtain ⟨p,vs,rfl,hl,hr⟩:=a0C (S:=S) r rfl
  rw [c.ok.K] at hl
  refine ⟨p,vs,rfl,hl,?_⟩
  have:=res (a1x ds) _ S H1 _ q (a0d.refl _ _) R.ce (a7D rfl r)
  rwa [c.ok.K] at this
theorem b4Q {elts:List Expr} {kk:Nat} {tpos p:Pos} {t1 t2:Bool} (c:XC n X G W k sc) (hg:glB sc "zip" = true) (hs:a0t l=true) (hs2:a0t r=true) (ha:PE X l (LE G.toGd W (den G a))) (hb:PE X r (LE G.toGd W (den G b))):PI X (.Tuple elts kk tpos) (.Call (.Name "zip" p) [l,r] [] pos) (LI G.toGd W (a0P G (.zip t1 t2 a b))) :=
 PI.imp (b2H t1 t2 (c.gl hg) (c.ok.bt _ (by decide +kernel)) (pa_cons ha (pa_cons hb pa_nil (a0g hs2)) (a0g hs)) (a0g hs) (by rw [a0g hs2];rfl)) fun σ H R h=>by
  have h:LI G.toGd W (fun δ S Y K=>den G a δ S Y fun d S1=>den G b δ S1 Y fun d2 S2=>∃ xs ys,d=sqv t1 xs∧d2=sqv t2 ys∧K (a1S xs ys) (fun _=>True) S2) σ H R:=by
   obtain ⟨δ,S,Y,K,R,ht,q⟩:=h
   rw [a0P] at ht
   exact ⟨δ,S,Y,K,R,ht,q⟩
  refine (a9K (tg:=.Tuple elts kk tpos) (t1:=den G a) (t2:=fun d δ S1 Y K=>den G b δ S1 Y fun d2 S2=>∃ xs ys,d=sqv t1 xs∧d2=sqv t2 ys∧K (a1S xs ys) (fun _=>True) S2) h).then fun v H1 q=>?_
  obtain ⟨x,δ,S,Y,K,R,r,q,res,rw'⟩:=q
  refine ⟨δ,S,Y,_,R,q,fun d S1 v2 H2 kk P cc r2=>?_,rw'⟩
  obtain ⟨xs,ys,rfl,rfl,q⟩:=kk
  have r:=r.mono P
  obtain ⟨a1,rfl⟩:=b1a cc r
  obtain ⟨a2,rfl⟩:=b1a cc r2
  obtain ⟨vs,hl,_⟩:=a2R cc r
  obtain ⟨us,hl2,_⟩:=a2R cc r2
  rw [c.ok.K] at hl hl2
  refine ⟨a1,a2,vs,us,rfl,hl,hl2,?_⟩
  have:=res _ _ S1 H2 _ q P cc (b0c r r2)
  rwa [c.ok.K] at this
def b3B (n:SN) (sc:Scope) (ps:RQ) (ks:List (Option Expr)) (vs:List Expr):Prop:=ks.all (·.isSome)=true∧ks.length=vs.length∧(ks=[]→ps=.nil) ∧
 ∀ X G W k pos,XC n X G W k sc→∃ trs,PPs X pos ks vs trs∧∀ σ H (Q:List (V × V)→Hp→Prop),(∃ δ S Y K,Rel G.toGd S H δ σ∧a4U G ps δ S Y K∧(∀ xs S' ys H',K xs S'→a0d S H S' H'→CellsOk G.toGd S' H'→Paired (fun (x:D × D) (y:V × V)=>Rep G.toGd S' H' x.1 y.1∧Rep G.toGd S' H' x.2 y.2) xs ys→Q ys H')∧a5P G.toGd S H Y W)→tPairs trs σ H Q
theorem b0D:b3B n sc .nil [] []:=⟨rfl,rfl,fun _=>rfl,fun X G W k pos c=>⟨[],pps_nil,fun σ H Q ⟨δ,S,Y,K,R,ht,res,_⟩=>by
 rw [a4U] at ht
 exact res [] S [] H ht (a0d.refl _ _) R.ce .nil⟩⟩
theorem a9t {kx vx:RE} {ps:RQ} {x y:Expr} {ks:List (Option Expr)} {vs:List Expr} (hk:b1p n sc kx x) (hv:b1p n sc vx y) (hr:b3B n sc ps ks vs):b3B n sc (.cons kx vx ps) (some x :: ks) (y :: vs):=by
 obtain ⟨h1,h2,_,h3⟩:=hr
 refine ⟨by rw [List.all_cons,h1];rfl,by rw [zaz,zaz,h2],(fun z=>nomatch z),fun X G W k pos c=>?_⟩
 obtain ⟨trs,rule,reads⟩:=h3 X G W k pos c
 refine ⟨_,pps_cons (hk.v X G W k c) (hv.v X G W k c) rule,fun σ H Q ⟨δ,S,Y,K,R,ht,res,rw'⟩=>?_⟩
 rw [a4U] at ht
 refine ⟨δ,S,Y,_,R,ht,fun d S1 v H1 kk P c1 r1=>⟨δ,S1,Y,_,R.mono P c1,kk,fun e S2 u H2 kk P2 c2 r2=>reads σ H2 _ ⟨δ,S2,Y,_,(R.mono P c1).mono P2 c2,kk,fun xs S3 ys H3 kk P3 c3 all=>?_,(rw'.mono P).mono P2⟩,rw'.mono P⟩,rw'⟩
 exact res _ S3 _ H3 kk ((P.trans P2).trans P3) c3 (.cons ⟨(r1.mono P2).mono P3,r2.mono P3⟩ all)
theorem a8L {g:Gd} {S:SS} {H:Hp} {xs:List (D × D)} {ys:List (V × V)} (all:Paired (fun (x:D × D) (y:V × V)=>Rep g S H x.1 y.1∧Rep g S H x.2 y.2) xs ys):∀ {kvs:List (Key × D)},a8K xs=some kvs→∃ ws:List (Key × V),ys=ws.map (fun kv=>(kV kv.1,kv.2))∧a0L g S H kvs ws:=by
 induction all with
 | nil =>
  intro kvs h
  cases h
  exact ⟨[],rfl,by simp only [a0L]⟩
 | @cons x y l m r _ ih =>
  intro kvs h
  obtain ⟨k,v⟩:=x
  obtain ⟨a,b⟩:=y
  simp only [a8K] at h
  split at h
  ·rename_i key q e1 e2
   cases h
   obtain ⟨ws,rfl,more⟩:=ih e2
   have e:=a0V e1 r.1
   cases e
   exact ⟨(key,b) :: ws,rfl,by simp only [a0L];exact ⟨b,ws,rfl,r.2,more⟩⟩
  ·cases h
theorem b91 {cell:Bool} {ps:RQ} {ks:List (Option Expr)} {vs:List Expr} (c:XC n X G W k sc) (few:ks.length≤15) (hp:b3B n sc ps ks vs):PE X (.Dict ks vs pos) (LE G.toGd W (den G (.dct cell ps))):=by
 obtain ⟨h1,h2,h3,h4⟩:=hp
 obtain ⟨trs,rule,reads⟩:=h4 X G W k pos c
 by_cases none_:ks=[]
 ·have ep:=h3 none_
  subst none_
  cases vs with
  | cons _ _=>cases h2
  | nil =>
   refine PE.imp pe_dnewK fun σ H Q h=>?_
   obtain ⟨δ,S,Y,K,R,ht,res,rw'⟩:=h
   rw [den,ep] at ht
   intro p free
   have ht:=ht p (R.ce.free free)
   rw [a4U] at ht
   obtain ⟨_,kvs,e,_,q⟩:=ht
   cases e
   cases cell with
   | true=>exact res _ _ _ _ (show K (.obj p) (S.set p (.dic [])) from by have q:K (.obj p) ((S.set p (.dic [])).set p (.dic [])):=q;rwa [zac] at q) (a0d.newC free) (R.ce.newC free ⟨[],upd_same,by simp only [a0L]⟩) (by simp only [Rep])
   | false =>
    have q:K (.dic []) ((S.set p (.dic [])).del p):=q
    rw [zaf (R.ce.free free)] at q
    exact res.dic q R.ce (by simp only [a0L]) free
 ·refine PE.imp (pe_disp rule h1 h2 none_ few) fun σ H Q h=>?_
  obtain ⟨δ,S,Y,K,R,ht,res,rw'⟩:=h
  rw [den] at ht
  intro p free
  have P0:a0d S H (S.set p (.dic [])) (upd H p (.dK [])):=a0d.newC free
  have C0:CellsOk G.toGd (S.set p (.dic [])) (upd H p (.dK [])):=R.ce.newC free ⟨[],upd_same,by simp only [a0L]⟩
  refine reads σ _ _ ⟨δ,_,Y,_,R.mono P0 C0,ht p (R.ce.free free),fun xs S2 ys H2 kk P2 c2 all=>?_,rw'.mono P0⟩
  obtain ⟨at_p,kvs,e,small,q⟩:=kk
  obtain ⟨ws0,here,nothing⟩:=c2 p _ at_p
  simp only [a0L] at nothing
  subst nothing
  obtain ⟨ws,rfl,more⟩:=a8L all e
  have made:a0L G.toGd S2 H2 (a07 [] kvs) (mergeK [] ws):=a3x more (by simp only [a0L])
  have same:kvs.length=ws.length:=Paired.length (a0R more)
  have P3:a0d S2 H2 (S2.set p (.dic (a07 [] kvs))) (upd H2 p (.dK (mergeK [] ws))):=a0d.write at_p
  have C3:CellsOk G.toGd (S2.set p (.dic (a07 [] kvs))) (upd H2 p (.dK (mergeK [] ws))):=c2.write at_p ⟨_,upd_same,made.mono P3⟩
  refine ⟨here,ws,rfl,by rw [← same];exact small,?_⟩
  cases cell with
  | true=>exact res _ _ _ _ q ((P0.trans P2).trans P3) C3 (by simp only [Rep])
  | false =>
   have q:K (.dic (a07 [] kvs)) (S2.del p):=q
   rw [← SS.set_del (x:=.dic (a07 [] kvs))] at q
   exact res _ _ _ _ q (((P0.trans P2).trans P3).trans (a0d.freeze zab)) (C3.freeze zab) (Rep.freezeK C3 zab)
theorem a7s {g:Gd} {S:SS} {H:Hp} {δ:DS} {σ:L2.St} (h:a5O g S H δ σ):∀ vs:List Nat,a5O g S H (a6C δ vs) (wipe σ vs)
 | []=>h
 | v :: vs=>(a7s h vs).setN
theorem a7t {σ:L2.St} {i:Nat} {x:Option V}:∀ {vs:List Nat},i∈vs→wipe (σ.set i x) vs=wipe σ vs
 | v :: vs,h=>by
  unfold wipe
  by_cases e:i=v
  ·subst e
   have key:∀ (ws:List Nat),(wipe (σ.set i x) ws).set i none=(wipe σ ws).set i none:=by
    intro ws
    induction ws with
    | nil=>show (σ.set i x).set i none=σ.set i none;rw [List.set_set]
    | cons w ws ih =>
     unfold wipe
     by_cases ew:w=i
     ·subst ew;rw [List.set_set,List.set_set];exact ih
     ·rw [List.set_comm _ _ (Ne.symm (Ne.symm ew)),ih,List.set_comm _ _ ew]
   exact key vs
  ·rcases zau.mp h with h | h
   ·exact absurd h e
   ·rw [a7t h]
theorem a9G {σ:L2.St}:∀ vs:List Nat,wipe (wipe σ vs) vs=wipe σ vs:=by
 intro vs
 apply List.ext_getElem?
 intro i
 by_cases h:i∈vs
 ·have key:∀ (ws:List Nat) (τ:L2.St),i∈ws→(wipe τ ws)[i]?=if i < τ.length then some none else none:=by
   intro ws
   induction ws with
   | nil=>intro τ h;cases h
   | cons w ws ih =>
    intro τ h
    unfold wipe
    by_cases e:w=i
    ·subst e
     rw [List.getElem?_set]
     simp [wipe_length]
    ·rw [List.getElem?_set_ne e]
     exact ih τ (by rcases zau.mp h with h | h;exact absurd h.symm e;exact h)
  rw [key vs _ h,key vs _ h,wipe_length]
 ·rw [wipe_out h]
def gTg (K:zbj) (tg:List Nat) (one:Bool):TG:=if one=true then (match tg with
 | [i]=>gName i
 | _=>fun _ _ _ _=>False) else gTup K tg.length (a5g tg)
theorem a9b (c:XC n X G W k sc) {tg:List Nat} {one:Bool} {x:Expr} (hc:one=false→X.calm=true) (h:a0U n sc tg one x=true):PG X x (gTg X.K tg one):=by
 cases one with
 | true =>
  unfold a0U at h
  rw [if_pos rfl] at h
  split at h
  ·rw [zak] at h
   exact pg_name c.nd (c.at h.1) (c.loc h.2) (c.sto h.2)
  ·cases h
 | false =>
  unfold a0U at h
  rw [if_neg zbe] at h
  split at h
  ·obtain ⟨h1,h2,h3⟩:=a3B c _ _ h
   exact pg_tup (hc rfl) h1 h2 h3
  ·cases h
theorem a66 {g:Gd} {S:SS} {H:Hp} {I:L2.St→Prop}:∀ (is:List Nat) (ds:List D) (vs:List V) (δ:DS) (σ:L2.St) (Q:L2.St→Hp→Prop),(∀ σ i v,i∈is→I σ→I (σ.set i (some v)))→Rel g S H δ σ→I σ→a0e g S H ds vs→ds.length=is.length →
  (∀ σ',Rel g S H (a3I δ is ds) σ'→I σ'→Q σ' H)→a5g is vs σ H Q
 | [],ds,vs,δ,σ,Q,hI,R,i0,r,l,h=>by
  cases ds with
  | nil=>simp only [a0e] at r;subst r;exact ⟨rfl,h σ R i0⟩
  | cons _ _=>cases l
 | i :: is,ds,vs,δ,σ,Q,hI,R,i0,r,l,h=>by
  cases ds with
  | nil=>cases l
  | cons d ds =>
   simp only [a0e] at r
   obtain ⟨v,q,rfl,a,b⟩:=r
   exact ⟨v,q,rfl,a66 is ds q _ _ Q (fun σ j w hj=>hI σ j w (zao _ hj)) ⟨R.sl.set a,R.ce⟩ (hI _ _ _ zal i0) b (by simpa using l) h⟩
theorem a6Q {g:Gd} {S:SS} {H:Hp} {I:L2.St→Prop} {tg:List Nat} {one:Bool} {d:D} {v:V} {δ:DS} {σ:L2.St} {K:DS→SS→Prop} {Q:L2.St→Hp→Prop} (hI:∀ σ i v,i∈tg→I σ→I (σ.set i (some v))) (hd:a1w tg one d δ S K) (r:Rep g S H d v) (R:Rel g S H δ σ) (i0:I σ)
  (h:∀ δ' σ',K δ' S→Rel g S H δ' σ'→I σ'→Q σ' H):gTg g.K tg one v σ H Q:=by
 cases one with
 | true =>
  unfold a1w at hd
  rw [if_pos rfl] at hd
  unfold gTg
  rw [if_pos rfl]
  split at hd
  ·exact h _ _ hd ⟨R.sl.set r,R.ce⟩ (hI _ _ _ zal i0)
  ·exact hd.elim
 | false =>
  unfold a1w at hd
  rw [if_neg zbe] at hd
  unfold gTg
  rw [if_neg zbe]
  obtain ⟨ds,e,l,hk⟩:=hd
  obtain ⟨p,vs,rfl,hl,hr⟩:=a0C r e
  exact ⟨p,vs,rfl,hl,by rw [← hr.length];exact l,a66 tg ds vs δ σ Q hI R i0 hr l fun σ' R' i'=>h _ _ hk R' i'⟩
theorem b4Z {cell:Bool} {elt:RE} {cnd:RO} {tg:List Nat} {one:Bool} {it:RI} {own:List (Str × Nat)} (hK:G.K=X.K) (htg:(tg.all fun i=>decide (i∈own.map (·.2)))=true) {σ:L2.St} {H:Hp} {Q:VK} (h:LE G.toGd W (den G (.lc cell elt tg one it cnd own)) σ H Q) :
  tLc (LI G.toGd W (a0P G it)) (gTg X.K tg one) (LT G.toGd noW (a5R G cnd)) (LE G.toGd noW (den G elt)) (own.map (·.2)) σ H Q:=by
 rw [den] at h
 obtain ⟨δ,S,Y,K,R,⟨_,ht⟩,res,rw'⟩:=h
 refine ⟨δ,S,Y,_,R,ht,fun ds ok S1 H1 J hk P1 c1 io L hL=>?_,rw'⟩
 obtain ⟨Iv,i0,hok,step,last⟩:=hk L (c1.free hL)
 have PL:a0d S1 H1 (S1.set L (.lst [])) (upd H1 L (.lst [])):=a0d.newC hL
 have cL:CellsOk G.toGd (S1.set L (.lst [])) (upd H1 L (.lst [])):=c1.newC hL ⟨[],upd_same,by simp only [a0e]⟩
 refine ⟨fun i m H'=>m=ds.length - i∧i≤ds.length∧∃ S',Iv i S'∧a0d S1 H1 S' H'∧CellsOk G.toGd S' H',⟨_,rfl,Nat.zero_le _,_,i0,PL,cL⟩,?_⟩
 rintro i m H' ⟨rfl,hi,S',iv,P',c'⟩
 have ok':=hok i S' iv hi
 by_cases hlt:i < ds.length
 ·refine .inr ⟨io.go i S' H' hlt P' c' ok',fun H''=>i + 1≤ds.length∧∃ S'',Iv (i + 1) S''∧a0d S1 H1 S'' H''∧CellsOk G.toGd S'' H'',fun H'' q=>⟨_,by omega,rfl,q⟩,fun x H2 y=>?_⟩
  obtain ⟨P2,c2,r2⟩:=io.yl i S' H' x H2 ds[i] (by simp) P' c' ok' y
  have P12:=P'.trans P2
  have R2:Rel G.toGd S' H2 (a6C δ (own.map (·.2))) (wipe σ (own.map (·.2))):=⟨a7s (R.sl.mono (P1.trans P12)) _,c2⟩
  have hstep:=step i ds[i] S' (by simp) iv
  rw [← hK]
  refine a6Q (I:=fun τ=>wipe τ (own.map (·.2))=wipe σ (own.map (·.2))) (fun τ j w hj e=>?_) hstep r2 R2 (a9G _) fun δ3 σ3 hq R3 e3=>⟨e3,?_⟩
  ·rw [a7t (by simpa using (List.all_eq_true.mp htg) j hj)]
   exact e
  ·refine ⟨δ3,S',noX,_,R3,hq,fun b S4 H4 hb4 P4 c4=>?_,fun _ _ _ _ _ _ _ z=>z.elim⟩
   cases b with
   | true =>
    refine ⟨δ3,S4,noX,_,R3.mono P4 c4,hb4,fun d5 S5 v5 H5 h5 P5 c5 r5=>?_,fun _ _ _ _ _ _ _ z=>z.elim⟩
    obtain ⟨acc,ea,hz,iv5⟩:=h5
    obtain ⟨vs,hL5,rvs⟩:=c5 L _ ea
    have P6:a0d S5 H5 (S5.set L (.lst (acc ++ [d5]))) (upd H5 L (.lst (vs ++ [v5]))):=a0d.write ea
    refine ⟨vs,hL5,by rw [← rvs.length];exact hz,hlt,_,iv5,((P12.trans P4).trans P5).trans P6,c5.write ea ⟨_,upd_same,(rvs.append (show a0e G.toGd S5 H5 [d5] [v5] from by simp only [a0e];exact ⟨v5,[],rfl,r5,rfl⟩)).mono P6⟩⟩
   | false=>exact ⟨hlt,S4,hb4,P12.trans P4,c4⟩
 ·have e:i=ds.length:=by omega
  subst e
  refine .inl ⟨io.st _ S' H' (Nat.le_refl _) P' c' ok',?_⟩
  obtain ⟨acc,ea,hk⟩:=last S' iv
  cases cell with
  | true=>exact res _ S' _ H' hk (P1.trans P') c' (by simp only [Rep])
  | false=>exact res _ (S'.del L) _ H' hk ((P1.trans P').trans (a0d.freeze ea)) (c'.freeze ea) (Rep.freeze c' ea)
theorem a9B {n:SN} {scope:Scope} {tg:List Nat} {one:Bool} {xt:Expr} {it:RI} (h:a0U n scope tg one xt=true) (h2:(!it.two || !one)=true) (two:it.two=true):∃ elts kk tpos,xt=.Tuple elts kk tpos:=by
 rw [two] at h2
 cases one with
 | true=>cases h2
 | false =>
  unfold a0U at h
  rw [if_neg zbe] at h
  split at h
  ·exact ⟨_,_,_,rfl⟩
  ·cases h
theorem c3w {cell:Bool} {elt:RE} {cnd:RO} {tg:List Nat} {one:Bool} {it:RI} {own:List (Str × Nat)} {xe xt xi:Expr} {ifs:List Expr} {scope:Scope} (c:XC n X G W k sc) (hb:blkC n.N sc scope own=true) (hsd:a1R xi=true) (hI:b3A n sc it xi)
  (htg:(tg.all fun i=>decide (i∈own.map (·.2)))=true) (hct:a0U n scope tg one xt=true) (h2:(!it.two || !one)=true) (hcnd:∀ X G W k,XC n X G W k scope→PTs X ifs (LT G.toGd W (a5R G cnd))) (he:∀ X G W k,XC n X G W k scope→PE X xe (LE G.toGd W (den G elt))) :
  PE X (.ListComp xe [⟨xt,xi,ifs,0⟩] scope pos) (LE G.toGd W (den G (.lc cell elt tg one it cnd own))):=by
 by_cases hm:G.m0=none
 ·have calm:X.calm=true:=by have:=c.md;rw [hm] at this;exact this.2
  have bo:BlkOk X.N X.env.scope scope own:=by
   have h:=blkOk_by hb
   exact ⟨h.kind,h.uniq,fun p hp=>c.N ▸ h.ix p hp,fun y hy e=>c.sc.fr _ (h.free y hy e),fun y hy e=>c.N ▸ h.own y hy e⟩
  refine PE.imp (pe_lc (wi:=LI G.toGd W (a0P G it)) (g:=gTg X.K tg one) (tt:=LT G.toGd noW (a5R G cnd)) (te:=LE G.toGd noW (den G elt)) calm c.nd (hI X G W k xt c hm (a9B hct h2)) bo (fun s H C cl fp=>a9b (c.blk hm) (fun _=>calm) hct) (fun s H C cl fp=>hcnd _ G noW k (c.blk hm)) (fun s H C cl fp=>he _ G noW k (c.blk hm)) (fun x=>a3e hsd x)) fun σ H Q h=>b4Z c.ok.K htg h
 ·refine a0K fun δ S Y K h=>?_
  rw [den] at h
  exact hm h.1
end
end Sv
namespace Sv
open PySem PySem.Spec PyProof.Rows L2
open L2H (RoomH)
variable {n:SN}
theorem b5L {sc:Scope} {x:Expr} {e:RE} (hv:∀ G δ S Y K,¬ den G e δ S Y K) (ht:∀ G δ S Y K,¬ a0o G e δ S Y K):b1p n sc e x :=
 ⟨fun X G W k _=>a0K (hv G),fun X G W k _=>a7e (ht G)⟩
theorem a0z {sc:Scope} {x:Expr} {e:RE} (hp:plainT x=true) (hv:∀ X G W k,XC n X G W k sc→PE X x (LE G.toGd W (den G e))) (ht:∀ G δ S Y K,a0o G e δ S Y K→den G e δ S Y fun d S'=>a1c d S' fun b=>K b S'):b1p n sc e x :=
 ⟨hv,fun X G W k c=>PT.imp (b9j c (hv X G W k c) hp) fun σ H Q h=>h.re fun δ S Y K q=>ht G δ S Y K q⟩
theorem a0h {sc:Scope} {x:Expr} {e:RE} (hv:∀ X G W k,XC n X G W k sc→PE X x (LE G.toGd W (den G e))) (ht:∀ G δ S Y K,¬ a0o G e δ S Y K):b1p n sc e x :=
 ⟨hv,fun X G W k _=>a7e (ht G)⟩
section
variable {sc:Scope} {e f:RE} {es r:RL} {x y:Expr} {xs:List Expr}
theorem b0C:a7S n sc .nil [] where
 a:=fun X G W k c=>PA.imp pa_nil fun σ H Q h=>by
  obtain ⟨δ,S,Y,K,R,ht,res,_⟩:=h
  rw [a0p] at ht
  exact res [] S [] H ht (a0d.refl _ _) R.ce (by simp only [a0e])
 and:=fun X G W k pos c=>a0K fun δ S Y K h=>by rw [a0Q] at h;exact h
 or:=fun X G W k pos c=>a0K fun δ S Y K h=>by rw [a1t] at h;exact h
 tand:=fun X G W k pos c=>a7g fun δ S Y K h=>by rw [a0J] at h;exact h
 tor:=fun X G W k pos c=>a7g fun δ S Y K h=>by rw [a0W] at h;exact h
 st:=rfl
 nl:=fun _=>rfl
 ne:=rfl
theorem a9s (hs:a0t x=true) (he:b1p n sc e x) (hL:a7S n sc es xs):a7S n sc (.cons e es) (x :: xs) where
 a:=fun X G W k c=>PA.imp (pa_cons (he.v X G W k c) (hL.a X G W k c) (a0g hs)) fun σ H Q h=>by
  have h':LE G.toGd W (den G e) σ H fun v H1=>LA G.toGd W (a0p G es) σ H1 fun vs H2=>Q (v :: vs) H2:=by
   obtain ⟨δ,S,Y,K,R,ht,res,rw'⟩:=h
   rw [a0p] at ht
   refine ⟨δ,S,Y,_,R,ht,fun d S1 v H1 k P c r=>⟨δ,S1,Y,_,R.mono P c,k,fun ds S2 vs H2 k2 P2 c2 r2=>res (d :: ds) S2 (v :: vs) H2 k2 (P.trans P2) c2 ?_,rw'.mono P⟩,rw'⟩
   simp only [a0e]
   exact ⟨v,vs,rfl,r.mono P2,r2⟩
  exact h'
 and:=fun X G W k pos c=>by
  cases xs with
  | nil =>
   have he':=hL.nl rfl
   subst he'
   exact PE.imp (pe_one (he.v X G W k c)) fun σ H Q h=>h.re fun δ S Y K q=>by rw [a0Q] at q;exact q
  | cons z zs =>
   cases es with
   | nil=>exact absurd (hL.ne) (by simp [RL.len])
   | cons f r =>
    refine PE.imp (pe_andT (he.v X G W k c) (hL.and X G W k pos c)) fun σ H Q h=>?_
    have h:=h.re (t':=fun δ S Y K=>den G e δ S Y fun x S1=>a1c x S1 fun k=>if k=true then a0Q G (.cons f r) δ S1 Y K else K x S1) fun δ S Y K q=>by rw [a0Q] at q;exact q
    refine (a0y (t1:=den G e) (t2:=fun x δ S1 Y K=>a1c x S1 fun k=>if k=true then a0Q G (.cons f r) δ S1 Y K else K x S1) h).then fun v H1 q=>?_
    obtain ⟨x,δ,S,Y,K,R,r1,q,res,rw'⟩:=q
    obtain ⟨b,tv,q⟩:=a6w c.ok.K R.ce r1 q
    refine ⟨b,tv,?_⟩
    cases b with
    | true=>exact ⟨δ,S,Y,K,R,q,res,rw'⟩
    | false=>exact res.val q R.ce r1
 or:=fun X G W k pos c=>by
  cases xs with
  | nil =>
   have he':=hL.nl rfl
   subst he'
   exact PE.imp (pe_one (he.v X G W k c)) fun σ H Q h=>h.re fun δ S Y K q=>by rw [a1t] at q;exact q
  | cons z zs =>
   cases es with
   | nil=>exact absurd (hL.ne) (by simp [RL.len])
   | cons f r =>
    refine PE.imp (pe_orT (he.v X G W k c) (hL.or X G W k pos c)) fun σ H Q h=>?_
    have h:=h.re (t':=fun δ S Y K=>den G e δ S Y fun x S1=>a1c x S1 fun k=>if k=true then K x S1 else a1t G (.cons f r) δ S1 Y K) fun δ S Y K q=>by rw [a1t] at q;exact q
    refine (a0y (t1:=den G e) (t2:=fun x δ S1 Y K=>a1c x S1 fun k=>if k=true then K x S1 else a1t G (.cons f r) δ S1 Y K) h).then fun v H1 q=>?_
    obtain ⟨x,δ,S,Y,K,R,r1,q,res,rw'⟩:=q
    obtain ⟨b,tv,q⟩:=a6w c.ok.K R.ce r1 q
    refine ⟨b,tv,?_⟩
    cases b with
    | true=>exact res.val q R.ce r1
    | false=>exact ⟨δ,S,Y,K,R,q,res,rw'⟩
 tand:=fun X G W k pos c=>by
  cases xs with
  | nil =>
   have he':=hL.nl rfl
   subst he'
   exact PW.imp (pw_and1 (he.t X G W k c)) fun σ H Q h=>h.re fun δ S Y K q=>by rw [a0J] at q;exact q
  | cons z zs =>
   cases es with
   | nil=>exact absurd (hL.ne) (by simp [RL.len])
   | cons f r =>
    refine PW.imp (pw_and (he.t X G W k c) (hL.tand X G W k pos c)) fun σ H Q h=>?_
    obtain ⟨δ,S,Y,K,R,ht,res,rw'⟩:=h
    rw [a0J] at ht
    refine ⟨δ,S,Y,_,R,ht,fun b S1 H1 k P c1=>?_,rw'⟩
    cases b with
    | true=>exact ⟨δ,S1,Y,K,R.mono P c1,k,fun b S2 H2 k2 P2=>res b S2 H2 k2 (P.trans P2),rw'.mono P⟩
    | false=>exact res false S1 H1 k P c1
 tor:=fun X G W k pos c=>by
  cases xs with
  | nil =>
   have he':=hL.nl rfl
   subst he'
   exact PW.imp (pw_or1 (he.t X G W k c)) fun σ H Q h=>h.re fun δ S Y K q=>by rw [a0W] at q;exact q
  | cons z zs =>
   cases es with
   | nil=>exact absurd (hL.ne) (by simp [RL.len])
   | cons f r =>
    refine PW.imp (pw_or (he.t X G W k c) (hL.tor X G W k pos c)) fun σ H Q h=>?_
    obtain ⟨δ,S,Y,K,R,ht,res,rw'⟩:=h
    rw [a0W] at ht
    refine ⟨δ,S,Y,_,R,ht,fun b S1 H1 k P c1=>?_,rw'⟩
    cases b with
    | true=>exact res true S1 H1 k P c1
    | false=>exact ⟨δ,S1,Y,K,R.mono P c1,k,fun b S2 H2 k2 P2=>res b S2 H2 k2 (P.trans P2),rw'.mono P⟩
 st:=by rw [List.all_cons,hs,hL.st];rfl
 nl:=fun h=>nomatch h
 ne:=by simp [RL.len,hL.ne]
end
theorem a9X {H:Hp} {g:Gd} {W:WX} {G:Gm} {c:RC} {v:V} {σ:L2.St} {Q:VK} (hv:∀ S H,Rep g S H c.d v) (h:LE g W (den G (.con c)) σ H Q):Q v H:=by
 obtain ⟨δ,S,Y,K,R,ht,res,_⟩:=h
 rw [den] at ht
 exact res.val ht R.ce (hv _ _)
mutual
theorem sE:∀ (e:RE) (sc:Scope) (x:Expr),chk n sc e x=true→b1p n sc e x
 | .var i,sc,x,h=>by
  unfold chk at h
  split at h
  ·rename_i y p
   rw [zak] at h
   refine a0z rfl (fun X G W k c=>PE.imp (pe_var (c.at h.1) (c.vis h.2) (a0E h.1).2.1 (a0E h.1).2.2) fun σ H Q q=>?_) (fun G δ S Y K q=>by rw [a0o] at q;rw [den];exact q)
   obtain ⟨δ,S,Y,K,R,ht,res,_⟩:=q
   rw [den] at ht
   split at ht
   ·rename_i d e
    obtain ⟨v,e1,r⟩:=R.sl.at_ i d e
    exact ⟨v,e1,res.val ht R.ce r⟩
   ·exact ht.elim
  ·cases h
 | .con c,sc,x,h=>by
  unfold chk at h
  split at h
  ·exact a0z rfl (fun X G W k _=>PE.imp pe_non fun σ H Q q=>a9X (v:=.non) (fun _ _=>by simp only [RC.d,Rep]) q) (fun G δ S Y K q=>by rw [a0o] at q;rw [den];exact q)
  ·have e:=eq_of_beq h
   subst e
   exact a0z rfl (fun X G W k _=>PE.imp pe_bl fun σ H Q q=>a9X (v:=.bl _) (fun _ _=>by simp only [RC.d,Rep]) q) (fun G δ S Y K q=>by rw [a0o] at q;rw [den];exact q)
  ·have e:=of_decide_eq_true h
   subst e
   exact a0z rfl (fun X G W k _=>PE.imp pe_int fun σ H Q q=>a9X (v:=.int _) (fun _ _=>by simp only [RC.d,Rep]) q) (fun G δ S Y K q=>by rw [a0o] at q;rw [den];exact q)
  ·have e:=of_decide_eq_true h
   subst e
   exact a0z rfl (fun X G W k _=>PE.imp pe_str fun σ H Q q=>a9X (v:=.str _) (fun _ _=>by simp only [RC.d,Rep]) q) (fun G δ S Y K q=>by rw [a0o] at q;rw [den];exact q)
  ·cases h
 | .glb j,sc,x,h=>by
  unfold chk at h
  split at h
  ·rename_i y p
   rw [zak] at h
   refine a0z rfl (fun X G W k c=>?_) (fun G δ S Y K q=>by rw [a0o] at q;rw [den];exact q)
   obtain ⟨v,u,h1,h2,h3⟩:=c.ok.gv j _ (a0E h.1).1
   refine PE.imp (pe_glob (c.gl h.2) h1 h2 (a0E h.1).2.1) fun σ H Q q=>?_
   obtain ⟨δ,S,Y,K,R,ht,res,_⟩:=q
   rw [den] at ht
   exact res.val ht R.ce (h3 _ _)
  ·cases h
 | .bin op a b,sc,x,h=>by
  unfold chk at h
  split at h
  ·simp only [zak,zah] at h
   obtain ⟨e,h1,h2⟩:=h
   subst e
   exact a0h (fun X G W k c=>b9r c ((sE a sc _ h1).v X G W k c) ((sE b sc _ h2).v X G W k c)) (fun G δ S Y K q=>by unfold a0o at q;exact q)
  ·cases h
 | .neg a,sc,x,h=>by
  unfold chk at h
  split at h
  ·exact a0h (fun X G W k c=>c0g ((sE a sc _ h).v X G W k c)) (fun G δ S Y K q=>by unfold a0o at q;exact q)
  ·cases h
 | .nt a,sc,x,h=>by
  unfold chk at h
  split at h
  ·exact ⟨fun X G W k c=>c3y c ((sE a sc _ h).v X G W k c),fun X G W k c=>c0j ((sE a sc _ h).t X G W k c)⟩
  ·cases h
 | .and es,sc,x,h=>by
  unfold chk at h
  split at h
  ·have q:=sL es sc _ h
   exact ⟨fun X G W k c=>PE.imp (q.and X G W k _ c) fun σ H Q z=>z.re fun δ S Y K y=>by rw [den] at y;exact y,fun X G W k c=>PT.imp (q.tand X G W k _ c).pt fun σ H Q z=>z.re fun δ S Y K y=>by rw [a0o] at y;exact y⟩
  ·cases h
 | .or es,sc,x,h=>by
  unfold chk at h
  split at h
  ·have q:=sL es sc _ h
   exact ⟨fun X G W k c=>PE.imp (q.or X G W k _ c) fun σ H Q z=>z.re fun δ S Y K y=>by rw [den] at y;exact y,fun X G W k c=>PT.imp (q.tor X G W k _ c).pt fun σ H Q z=>z.re fun δ S Y K y=>by rw [a0o] at y;exact y⟩
  ·cases h
 | .ife t a b,sc,x,h=>by
  unfold chk at h
  split at h
  ·simp only [zak] at h
   obtain ⟨h0,h1,h2⟩:=h
   exact a0h (fun X G W k c=>b93 ((sE t sc _ h0).t X G W k c) ((sE a sc _ h1).v X G W k c) ((sE b sc _ h2).v X G W k c)) (fun G δ S Y K q=>by unfold a0o at q;exact q)
  ·cases h
 | .cmp op a b,sc,x,h=>by
  unfold chk at h
  split at h
  ·simp only [zak,zah] at h
   obtain ⟨⟨e,h0⟩,h1,h2⟩:=h
   subst e
   exact ⟨fun X G W k c=>b9E c h0 ((sE a sc _ h1).v X G W k c) ((sE b sc _ h2).v X G W k c),fun X G W k c=>b5D c h0 ((sE a sc _ h1).v X G W k c) ((sE b sc _ h2).v X G W k c)⟩
  ·cases h
 | .chn o1 o2 a b t,sc,x,h=>by
  unfold chk at h
  split at h
  ·simp only [zak,zah] at h
   obtain ⟨⟨⟨e,e'⟩,h0⟩,h1,h2,h3⟩:=h
   subst e e'
   exact ⟨fun X G W k c=>b9D c h0 ((sE a sc _ h1).v X G W k c) ((sE b sc _ h2).v X G W k c) ((sE t sc _ h3).v X G W k c),fun X G W k c=>b5C c h0 ((sE a sc _ h1).v X G W k c) ((sE b sc _ h2).v X G W k c) ((sE t sc _ h3).v X G W k c)⟩
  ·cases h
 | .lst cell es,sc,x,h=>by
  unfold chk at h
  split at h
  ·exact a0h (fun X G W k c=>c0d ((sL es sc _ h).a X G W k c)) (fun G δ S Y K q=>by unfold a0o at q;exact q)
  ·cases h
 | .tup es,sc,x,h=>by
  unfold chk at h
  split at h
  ·exact a0h (fun X G W k c=>c0D ((sL es sc _ h).a X G W k c)) (fun G δ S Y K q=>by unfold a0o at q;exact q)
  ·cases h
 | .ix a b,sc,x,h=>by
  unfold chk at h
  split at h
  ·simp only [zak] at h
   obtain ⟨h0,h1,h2⟩:=h
   exact a0z rfl (fun X G W k c=>c3v c h0 ((sE a sc _ h1).v X G W k c) ((sE b sc _ h2).v X G W k c)) (fun G δ S Y K q=>by rw [a0o] at q;rw [den];exact q)
  ·cases h
 | .slc a lo hi,sc,x,h=>by
  unfold chk at h
  split at h
  ·simp only [zak] at h
   obtain ⟨h0,h1,h2⟩:=h
   exact a0h (fun X G W k c=>c0r c ((sE a sc _ h0).v X G W k c) (sO lo sc _ h1 X G W k c) (sO hi sc _ h2 X G W k c)) (fun G δ S Y K q=>by unfold a0o at q;exact q)
  ·cases h
 | .sl a lo hi,sc,x,h=>by
  unfold chk at h
  split at h
  ·simp only [zak] at h
   obtain ⟨h0,h1,h2⟩:=h
   exact a0h (fun X G W k c=>c3A c ((sE a sc _ h0).v X G W k c) (sO lo sc _ h1 X G W k c) (sO hi sc _ h2 X G W k c)) (fun G δ S Y K q=>by unfold a0o at q;exact q)
  ·cases h
 | .fld a f,sc,x,h=>by
  unfold chk at h
  split at h
  ·simp only [zak,zah] at h
   obtain ⟨⟨e,h0⟩,h1⟩:=h
   subst e
   exact a0z rfl (fun X G W k c=>PE.imp (b2F c.ok.K c.md.p ((sE a sc _ h1).v X G W k c) (a2L h0)) fun σ H Q z=>z.re fun δ S Y K y=>by rw [den] at y;exact y) (fun G δ S Y K q=>by rw [a0o] at q;rw [den];exact q)
  ·cases h
 | .call j es,sc,x,h=>by
  unfold chk at h
  split at h
  ·simp only [zak] at h
   obtain ⟨⟨h0,h1⟩,h2⟩:=h
   exact a0z rfl (fun X G W k c=>s_call c h0 h1 (sL es sc _ h2)) (fun G δ S Y K q=>by rw [a0o] at q;rw [den];exact q)
  ·cases h
 | .bi b es,sc,x,h=>by
  unfold chk at h
  split at h
  ·simp only [zak,zah] at h
   obtain ⟨⟨⟨e,h0⟩,h1⟩,h2⟩:=h
   subst e
   exact a0z rfl (fun X G W k c=>c3h c h0 (by simpa using h1) (sL es sc _ h2)) (fun G δ S Y K q=>by rw [a0o] at q;rw [den];exact q)
  ·cases h
 | .isi a cn,sc,x,h=>by
  unfold chk at h
  split at h
  ·rw [zak] at h
   obtain ⟨h,hc⟩:=h
   simp only [zak,zah] at h
   obtain ⟨⟨⟨⟨e,h0⟩,h1⟩,h2⟩,h3⟩:=h
   exact a0z rfl (fun X G W k c=>b95 c e h0 h1 h2 ((sE a sc _ h3).v X G W k c) hc) (fun G δ S Y K q=>by rw [a0o] at q;rw [den];exact q)
  ·cases h
 | .lc cell elt tg one it cnd own,sc,x,h=>by
  unfold chk at h
  split at h
  ·simp only [zak] at h
   obtain ⟨⟨⟨⟨⟨⟨⟨h0,h1⟩,h2⟩,h3⟩,h4⟩,h5⟩,h6⟩,h7⟩:=h
   exact a0h (fun X G W k c=>c3w c h0 h1 (sI it sc _ h2) h3 h4 h7 (fun X G W k c=>sC cnd _ _ h5 X G W k c) (fun X G W k c=>(sE elt _ _ h6).v X G W k c)) (fun G δ S Y K q=>by unfold a0o at q;exact q)
  ·cases h
 | .mth b a es,sc,x,h=>by
  unfold chk at h
  split at h
  ·simp only [zak,zah] at h
   obtain ⟨⟨⟨⟨⟨e,h0⟩,h1⟩,h2⟩,h3⟩,h4⟩:=h
   subst e
   exact a0z rfl (fun X G W k c=>c0f c h0 h1 h2 ((sE a sc _ h3).v X G W k c) (sL es sc _ h4)) (fun G δ S Y K q=>by rw [a0o] at q;rw [den];exact q)
  ·cases h
 | .om j m a es,sc,x,h=>by
  unfold chk at h
  split at h
  ·simp only [zak,zah] at h
   obtain ⟨⟨⟨⟨⟨⟨e,h0⟩,h1⟩,h2⟩,h5⟩,h3⟩,h4⟩:=h
   subst e
   exact a0z rfl (fun X G W k c=>c3z c h0 h1 h2 h5 ((sE a sc _ h3).v X G W k c) (sL es sc _ h4)) (fun G δ S Y K q=>by rw [a0o] at q;rw [den];exact q)
  ·cases h
 | .mk j es,sc,x,h=>by
  unfold chk at h
  split at h
  ·simp only [zak,zah] at h
   obtain ⟨⟨⟨h0,h1⟩,h2⟩,h3⟩:=h
   exact a0h (fun X G W k c=>c3x c h0 h1 h2 (sL es sc _ h3)) (fun G δ S Y K q=>by unfold a0o at q;exact q)
  ·cases h
 | .lck a,sc,x,h=>by
  unfold chk at h
  exact a0h (fun X G W k c=>c0a ((sE a sc _ h).v X G W k c)) (fun G δ S Y K q=>by unfold a0o at q;exact q)
 | .fz a,sc,x,h=>by
  unfold chk at h
  exact a0h (fun X G W k c=>c3p ((sE a sc _ h).v X G W k c)) (fun G δ S Y K q=>by unfold a0o at q;exact q)
 | .fzt i a,sc,x,h=>by
  unfold chk at h
  exact a0h (fun X G W k c=>b92 ((sE a sc _ h).v X G W k c)) (fun G δ S Y K q=>by unfold a0o at q;exact q)
 | .ofs srt a,sc,x,h=>by
  unfold chk at h
  split at h
  ·simp only [zak,zah] at h
   obtain ⟨⟨⟨⟨⟨e,h0⟩,e2⟩,h1⟩,h2⟩,h3⟩:=h
   exact a0h (fun X G W k c=>c0n c e h0 e2 h1 h2 ((sE a sc _ h3).v X G W k c)) (fun G δ S Y K q=>by unfold a0o at q;exact q)
  ·cases h
 | .ofi a,sc,x,h=>by
  unfold chk at h
  split at h
  ·simp only [zak,zah] at h
   obtain ⟨⟨⟨⟨⟨e,h0⟩,e2⟩,h1⟩,h2⟩,h3⟩:=h
   exact a0h (fun X G W k c=>c0m c e h0 e2 h1 h2 ((sE a sc _ h3).v X G W k c)) (fun G δ S Y K q=>by unfold a0o at q;exact q)
  ·cases h
 | .vls cell a,sc,x,h=>by
  unfold chk at h
  split at h
  ·simp only [zak,zah] at h
   obtain ⟨⟨⟨⟨⟨e,h0⟩,e2⟩,h1⟩,h2⟩,h3⟩:=h
   exact a0h (fun X G W k c=>c0E c e h0 e2 h1 h2 ((sE a sc _ h3).v X G W k c)) (fun G δ S Y K q=>by unfold a0o at q;exact q)
  ·cases h
 | .rev cell a,sc,x,h=>by
  unfold chk at h
  split at h
  ·exact a0h (fun X G W k c=>c0p c ((sE a sc _ h).v X G W k c)) (fun G δ S Y K q=>by unfold a0o at q;exact q)
  ·cases h
 | .sl2 j a,sc,x,h=>by
  unfold chk at h
  split at h
  ·rw [zak] at h
   exact a0h (fun X G W k c=>c0q c h.1 ((sE a sc _ h.2).v X G W k c)) (fun G δ S Y K q=>by unfold a0o at q;exact q)
  ·cases h
 | .kin neg j a,sc,x,h=>by
  unfold chk at h
  split at h
  ·simp only [zak,zah] at h
   obtain ⟨⟨⟨e,h0⟩,h1⟩,h2⟩:=h
   rw [e]
   exact ⟨fun X G W k c=>b96 c h0 h1 ((sE a sc _ h2).v X G W k c),fun X G W k c=>b5E c h0 h1 ((sE a sc _ h2).v X G W k c)⟩
  ·cases h
 | .adc a b,sc,x,h=>by
  unfold chk at h
  split at h
  ·simp only [zak,zah] at h
   obtain ⟨e,h1,h2⟩:=h
   subst e
   exact a0h (fun X G W k c=>b9p c ((sE a sc _ h1).v X G W k c) ((sE b sc _ h2).v X G W k c)) (fun G δ S Y K q=>by unfold a0o at q;exact q)
  ·cases h
 | .kix j a,sc,x,h=>by
  unfold chk at h
  split at h
  ·simp only [zak] at h
   exact a0h (fun X G W k c=>b98 c h.1.1.1 h.1.1.2 h.1.2 ((sE a sc _ h.2).v X G W k c)) (fun G δ S Y K q=>by unfold a0o at q;exact q)
  ·cases h
 | .dct cell ps,sc,x,h=>by
  unfold chk at h
  split at h
  ·simp only [zak,zah] at h
   exact a0h (fun X G W k c=>b91 c h.1 (sP ps sc _ _ h.2)) (fun G δ S Y K q=>by unfold a0o at q;exact q)
  ·cases h
 | .nev,sc,x,h=>b5L (fun G δ S Y K q=>by rw [den] at q;exact q) (fun G δ S Y K q=>by unfold a0o at q;exact q)
theorem sP:∀ (ps:RQ) (sc:Scope) (ks:List (Option Expr)) (vs:List Expr),b3Q n sc ps ks vs=true→b3B n sc ps ks vs
 | .nil,sc,ks,vs,h=>by
  unfold b3Q at h
  rw [zak] at h
  cases ks with
  | cons _ _=>exact nomatch h.1
  | nil =>
   cases vs with
   | cons _ _=>exact nomatch h.2
   | nil=>exact b0D
 | .cons kx vx ps,sc,ks,vs,h=>by
  unfold b3Q at h
  split at h
  ·simp only [zak] at h
   obtain ⟨⟨h0,h1⟩,h2⟩:=h
   exact a9t (sE kx sc _ h0) (sE vx sc _ h1) (sP ps sc _ _ h2)
  ·cases h
theorem sL:∀ (es:RL) (sc:Scope) (xs:List Expr),a5Q n sc es xs=true→a7S n sc es xs
 | .nil,sc,xs,h=>by
  unfold a5Q at h
  cases xs with
  | nil=>exact b0C
  | cons _ _=>cases h
 | .cons e es,sc,xs,h=>by
  unfold a5Q at h
  split at h
  ·simp only [zak] at h
   obtain ⟨h0,h1,h2⟩:=h
   exact a9s h0 (sE e sc _ h1) (sL es sc _ h2)
  ·cases h
theorem sO:∀ (e:RO) (sc:Scope) (x:Option Expr),b1t n sc e x=true→∀ X G W k,XC n X G W k sc→PO X x (LO G.toGd W (a2o G e))
 | .nn,sc,x,h=>fun X G W k c=>by
  unfold b1t at h
  cases x with
  | some _=>cases h
  | none =>
   refine PO.imp po_none fun σ H Q q=>?_
   obtain ⟨δ,S,Y,K,R,ht,res,_⟩:=q
   rw [a2o] at ht
   exact res _ S H ht (a0d.refl _ _) R.ce
 | .ss e,sc,x,h=>fun X G W k c=>by
  unfold b1t at h
  split at h
  ·refine PO.imp (po_some ((sE e sc _ h).v X G W k c)) fun σ H Q q=>?_
   obtain ⟨δ,S,Y,K,R,ht,res,rw'⟩:=q
   rw [a2o] at ht
   refine ⟨δ,S,Y,_,R,ht,fun d S1 v H1 kk P cc r=>?_,rw'⟩
   obtain ⟨i,rfl,kk⟩:=kk
   exact ⟨i,a0f r,res _ S1 H1 kk P cc⟩
  ·cases h
theorem sC:∀ (e:RO) (sc:Scope) (ifs:List Expr),b3P n sc e ifs=true→∀ X G W k,XC n X G W k sc→PTs X ifs (LT G.toGd W (a5R G e))
 | .nn,sc,ifs,h=>fun X G W k c=>by
  unfold b3P at h
  cases ifs with
  | nil =>
   refine ⟨fun pins s σ H Q I q=>?_⟩
   obtain ⟨δ,S,Y,K,R,ht,res,rw'⟩:=q
   rw [a5R] at ht
   exact pts_nil.run pins s σ H Q I (res true S H ht (a0d.refl _ _) R.ce)
  | cons _ _=>cases h
 | .ss e,sc,ifs,h=>fun X G W k c=>by
  unfold b3P at h
  split at h
  ·rw [show a5R G (.ss e)=a0o G e by rw [a5R]]
   exact pts_one ((sE e sc _ h).t X G W k c)
  ·cases h
theorem sI:∀ (i:RI) (sc:Scope) (x:Expr),a5X n sc i x=true→b3A n sc i x
 | .lst e,sc,x,h=>by
  unfold a5X at h
  exact fun X G W k tg c hm _=>b8S c ((sE e sc x h).v X G W k c)
 | .tup e,sc,x,h=>by
  unfold a5X at h
  exact fun X G W k tg c hm _=>b8U c ((sE e sc x h).v X G W k c)
 | .rng1 a,sc,x,h=>by
  unfold a5X at h
  split at h
  ·simp only [zak,zah] at h
   obtain ⟨⟨⟨e,h0⟩,h1⟩,h2⟩:=h
   subst e
   exact fun X G W k tg c hm _=>b4O c h0 h1 ((sE a sc _ h2).v X G W k c)
  ·cases h
 | .rng2 a b,sc,x,h=>by
  unfold a5X at h
  split at h
  ·simp only [zak,zah] at h
   obtain ⟨⟨⟨⟨e,h0⟩,h1⟩,h1'⟩,h2,h3⟩:=h
   subst e
   exact fun X G W k tg c hm _=>b4P c h0 h1 h1' ((sE a sc _ h2).v X G W k c) ((sE b sc _ h3).v X G W k c)
  ·cases h
 | .str a,sc,x,h=>by
  unfold a5X at h
  exact fun X G W k tg c hm _=>b8T ((sE a sc x h).v X G W k c)
 | .keys a,sc,x,h=>by
  unfold a5X at h
  exact fun X G W k tg c hm _=>b4N ((sE a sc x h).v X G W k c)
 | .zip t1 t2 a b,sc,x,h=>by
  unfold a5X at h
  split at h
  ·simp only [zak,zah] at h
   obtain ⟨⟨⟨⟨e,h0⟩,h1⟩,h1'⟩,h2,h3⟩:=h
   subst e
   intro X G W k tg c hm two
   obtain ⟨_,_,_,rfl⟩:=two rfl
   exact b4Q c h0 h1 h1' ((sE a sc _ h2).v X G W k c) ((sE b sc _ h3).v X G W k c)
  ·cases h
 | .enumt a,sc,x,h=>by
  unfold a5X at h
  split at h
  ·simp only [zak,zah] at h
   obtain ⟨⟨⟨e,h0⟩,h1⟩,h2⟩:=h
   subst e
   intro X G W k tg c hm two
   obtain ⟨_,_,_,rfl⟩:=two rfl
   exact b1M c h0 h1 ((sE a sc _ h2).v X G W k c)
  ·cases h
 | .enum a,sc,x,h=>by
  unfold a5X at h
  split at h
  ·simp only [zak,zah] at h
   obtain ⟨⟨⟨e,h0⟩,h1⟩,h2⟩:=h
   subst e
   intro X G W k tg c hm two
   obtain ⟨_,_,_,rfl⟩:=two rfl
   exact b4M c h0 h1 ((sE a sc _ h2).v X G W k c)
  ·cases h
 | .items a,sc,x,h=>by
  unfold a5X at h
  split at h
  ·simp only [zak,zah] at h
   obtain ⟨⟨⟨e,h0⟩,h1⟩,h2⟩:=h
   subst e
   intro X G W k tg c hm two
   obtain ⟨_,_,_,rfl⟩:=two rfl
   exact b1N h0 h1 ((sE a sc _ h2).v X G W k c)
  ·cases h
end
end Sv
namespace Sv
open PySem PySem.Spec PyProof.Rows L2
open L2H (RoomH)
def a7W (x y z:D) (S:SS) (K:SS→Prop):Prop:=match x with
 | .obj a=>match S a with
  | some (.lst ds)=>∃ i j,y=.int i∧ixN ds.length i=some j∧K (S.set a (.lst (ds.set j z)))
  | some (.dic kvs)=>∃ k,keyD y=some k∧kvs.length < sizeLine∧K (S.set a (.dic (putD kvs k z)))
  | _=>False
 | _=>False
def rD3 (g:Gd) (t:D→D→D→SS→(SS→Prop)→Prop):TSet:=fun o i v H Q=>∃ x y z S K,CellsOk g S H∧Rep g S H x o∧Rep g S H y i∧Rep g S H z v∧t x y z S K∧∀ S' H',K S'→a0d S H S' H'→CellsOk g S' H'→Q H'
section
variable {X:Cx} {g:Gd}
theorem a9p (hu:X.A.units + 1 < cLine):PSet X (rD3 g a7W):=by
 intro pins s σ H o i v ov iv u Q I ro ri rv h
 obtain ⟨x,y,z,S,K,hc,p1,p2,p3,ht,res⟩:=h
 unfold a7W at ht
 split at ht
 ·rename_i a
  cases a0q p1
  split at ht
  ·rename_i ds e
   obtain ⟨k,j,rfl,hj,q⟩:=ht
   cases a0f p2
   obtain ⟨vs,hl,hr⟩:=hc a _ e
   exact set_list pins s σ H _ _ _ ov iv u Q I ro ri rv ⟨a,vs,k,j,rfl,rfl,hl,by rw [← hr.length];exact hj,res _ _ q (a0d.write e) (hc.write e ⟨_,upd_same,(hr.set p3).mono (a0d.write e)⟩)⟩
  ·rename_i kvs e
   obtain ⟨k,ek,hz,q⟩:=ht
   cases a0V ek p2
   obtain ⟨vs,hl,hr⟩:=hc a _ e
   exact set_dict hu pins s σ H _ _ _ ov iv u Q I ro ri rv ⟨a,_,rfl,.inl ⟨vs,k,hl,rfl,by rw [← Paired.length (a0R hr)];exact hz,rfl⟩,res _ _ q (a0d.write e) (hc.write e ⟨_,upd_same,(a6q hr k p3).mono (a0d.write e)⟩)⟩
  ·exact ht.elim
 ·exact ht.elim
theorem b0d {n j:Nat} {k:Int} (h:ixN n k=some j):(0≤k∧k=(j:Int)∨k < 0∧k + (n:Int)=(j:Int))∧j < n:=by
 unfold ixN at h
 split at h
 ·split at h <;> cases h
  omega
 ·split at h <;> cases h
  omega
theorem a8T {pins:List (Addr × Obj)} {σ:L2.St} {H:Hp} {s:Shared} {a:Addr} {vs:List V} {k:Int} {t:Tok} {z:V} {Q:Value→Shared→Prop} (I:Inv X pins σ H s) (at_a:SqL X.K H a vs) (found:atI vs k=some z) {E:Value→Shared→Prop} (done:∀ w,RelV z w→Q w s) :
  wpAny (model X.prog X.w) X.A (getItem (.ref a) (.int k t)) Q E s:=by
 obtain ⟨its,rel,isL,small⟩:=I.list at_a
 obtain ⟨j,place,here⟩:=Option.bind_eq_some_iff.mp found
 obtain ⟨w,at_j,like⟩:=a9g rel here
 have ⟨sign,inside⟩:=b0d place
 have same:its.toArray.size=vs.length:=by rw [List.size_toArray,rel.length]
 have bound:=line63
 have reads:∀ i:Nat,i=j→its.toArray[i]?=some w:=fun i e=>by rw [e,List.getElem?_toArray];exact at_j
 rcases sign with ⟨up,e⟩ | ⟨down,e⟩
 ·exact wpAny_getItem_list isL.isList up (by omega) (reads _ (by omega)) (done w like)
 ·exact wpAny_getItem_list_neg isL.isList down (by omega) (by omega) (reads _ (by omega)) (done w like)
def a6h (x y:D) (S:SS) (K:DK):Prop:=match x with
 | .obj a=>match S a with
  | some (.lst ds)=>∃ i d,y=.int i∧atI ds i=some d∧K d S
  | some (.dic kvs)=>∃ k d,keyD y=some k∧valD kvs k=some d∧K d S
  | _=>False
 | _=>False
theorem b1K (hu:X.A.units + 1 < cLine):PGet X (rD2 g a6h):=by
 intro pins s σ H o i ov iv Q I ro ri h
 obtain ⟨x,y,S,K,hc,p1,p2,ht,res⟩:=h
 unfold a6h at ht
 split at ht
 ·rename_i a
  cases a0q p1
  cases (show ov=Value.ref a from ro)
  split at ht
  ·rename_i ds e
   obtain ⟨k,d,rfl,hd,q⟩:=ht
   cases a0f p2
   obtain ⟨t,rfl⟩:=(show ∃ t,iv=Value.int k t from ri)
   obtain ⟨vs,hl,hr⟩:=hc a _ e
   obtain ⟨z,he,rz⟩:=hr.at hd
   exact a8T I (.inl (.inl hl)) he fun w rw'=>⟨z,H,I,rw',res.val q hc rz⟩
  ·rename_i kvs e
   obtain ⟨k,d,ek,ed,q⟩:=ht
   cases a0V ek p2
   obtain ⟨vs,hl,hr⟩:=hc a _ e
   rcases a1m hr k with ⟨z,_⟩ | ⟨d2,w,z1,z2,rw'⟩
   ·rw [ed] at z;cases z
   ·rw [ed] at z1
    cases z1
    exact d_getItem hu I (.inl ⟨vs,k,.inl hl,rfl,z2.symm⟩) ri fun w' s3 I3 rw2=>⟨w,H,I3,rw2,res.val q hc rw'⟩
  ·exact ht.elim
 ·exact ht.elim
def b76 (x y:D) (S:SS) (K:DK):Prop:=match x,y with
 | .int i,.int j=>K (.int (i + j)) S
 | .str a,.str b=>a.length + b.length≤sizeLine∧K (.str (a ++ b)) S
 | _,_=>False
def b77 (x y:D) (S:SS) (K:DK):Prop:=match x,y with
 | .int i,.int j=>K (.int (i - j)) S
 | _,_=>False
def b0T:Operator→D→D→SS→DK→Prop
 | .Add=>b76 | .Sub=>b77 | _=>fun _ _ _ _=>False
theorem a8e:∀ op:Operator,PIp X op (rD2 g (b0T op)):=by
 intro op pins s σ H v1 v2 u1 u2 Q I r1 r2 h
 obtain ⟨x,y,S,K,hc,p1,p2,ht,res⟩:=h
 cases op with
 | Add =>
  change b76 x y S K at ht
  unfold b76 at ht
  split at ht
  ·cases a0f p1
   cases a0f p2
   exact iop_add pins s σ H _ _ _ _ Q I r1 r2 ⟨_,_,rfl,rfl,res.int ht hc⟩
  ·cases a0u p1
   cases a0u p2
   exact iop_add_str pins s σ H _ _ _ _ Q I r1 r2 ⟨_,_,rfl,rfl,ht.1,res.str ht.2 hc⟩
  ·exact ht.elim
 | Sub =>
  change b77 x y S K at ht
  unfold b77 at ht
  split at ht
  ·cases a0f p1
   cases a0f p2
   exact iop_sub pins s σ H _ _ _ _ Q I r1 r2 ⟨_,_,rfl,rfl,res.int ht hc⟩
  ·exact ht.elim
 | _=>exact False.elim ht
end
def a5A (f:Str) (v:D):List (Str × D)→List (Str × D)
 | []=>[(f,v)]
 | (g,x) :: r=>if g=f then (g,v) :: r else (g,x) :: a5A f v r
theorem a7f {g:Gd} {S:SS} {H:Hp} {f:Str} {d:D} {v:V} (r:Rep g S H d v):∀ {fs:List (Str × D)} {ws:List (Str × V)},a1Q g S H fs ws→a1Q g S H (a5A f d fs) (putF f v ws)
 | [],_,h=>by
  simp only [a1Q] at h
  subst h
  simp only [a5A,putF,a1Q]
  exact ⟨v,[],rfl,r,rfl⟩
 | (k,x) :: fs,_,h=>by
  simp only [a1Q] at h
  obtain ⟨w,q,rfl,a,b⟩:=h
  unfold a5A putF
  by_cases e:k=f
  ·rw [if_pos e,if_pos e]
   simp only [a1Q]
   exact ⟨v,q,rfl,r,b⟩
  ·rw [if_neg e,if_neg e]
   simp only [a1Q]
   exact ⟨w,_,rfl,a,a7f r b⟩
theorem c1d {g:Gd} {S:SS} {H:Hp}:∀ {fs:List (Str × D)} {ws:List (Str × V)},a1Q g S H fs ws→fs.length=ws.length
 | [],_,h=>by simp only [a1Q] at h;subst h;rfl
 | (k,x) :: fs,_,h=>by
  simp only [a1Q] at h
  obtain ⟨w,q,rfl,a,b⟩:=h
  rw [zaz,zaz,c1d b]
mutual
inductive RS where
 | exp (e:RE) | asg (tg:List Nat) (one:Bool) (e:RE) | asl (i:Nat) (e:RE)
 | sti (a b c:RE) | stf (a:RE) (f:Str) (c:RE)
 | agv (i:Nat) (op:Operator) (e:RE) | agi (a b:RE) (op:Operator) (e:RE)
 | ifs (c:RE) (a b:RSs) | fr (tg:List Nat) (one:Bool) (it:RI) (b:RSs) | wh (c:RE) (b:RSs)
 | ret (e:RE) | retN | brk | cnt | pas
 | rai (j:Nat) (es:RL) | tra (b:RSs) (j:Nat) (i:Nat) (s:RSs) | tro (b:RSs) (j:Nat) (s:RSs)
 | par (i j:Nat) (es:RL) | tri (i j l:Nat) (es:RL) | lck (s:RS) | asu (tg:List Nat) (e:RE) | frn (j:Nat) (tg:List Nat) (it:RI) (b:RSs) | nev
inductive RSs where
 | nil | cons (s:RS) (r:RSs) | frz (i:Nat) (r:RSs) | cut (s:RS) (r:RSs)
end
inductive XKd where
 | fld (f:Str) | bare
def XKd.ar:XKd→Nat
 | .fld _=>1 | .bare=>0
structure Gs extends Gm where
 xk:Nat→Option XKd
def Gs.suite (G:Gs) (a:Addr) (oe:Obj):Gs:={ G with m0:=some (a,oe) }
def mkX:XKd→List D→Option (List (Str × D))
 | .fld f,[d]=>some [(f,d)]
 | .bare,[]=>some []
 | _,_=>none
def SE.unlock (F:SE) (a:Addr) (kvs:List (Key × D)):SE :=
 { nx:=fun δ S=>F.nx δ (S.set a (.dic kvs)),rt:=fun d S=>F.rt d (S.set a (.dic kvs)),bk:=fun δ S=>F.bk δ (S.set a (.dic kvs)),ct:=fun δ S=>F.ct δ (S.set a (.dic kvs)) }
def c2z (i:Nat) (δ:DS) (S:SS) (K:DS→SS→Prop):Prop:=K δ S∨∃ a,δ[i]?=some (some (.obj a))∧((∃ ds,S a=some (.lst ds)∧K (δ.set i (some (.lst ds))) (S.del a))∨∃ ds,S a=some (.dic ds)∧K (δ.set i (some (.dic ds))) (S.del a))
def b4c (j:Nat) (tg:List Nat) (d:D) (δ:DS) (S:SS) (Q:DS→SS→Prop):Prop:=∃ x y ds,vw S d=.tup [x,y]∧vw S y=.tup ds∧ds.length=tg.length∧Q (a3I (δ.set j (some x)) tg ds) S
mutual
def a0l (G:Gs):RS→RdS
 | .exp e=>fun δ S Y F=>den G.toGm e δ S Y fun _ S1=>F.nx δ S1
 | .asg tg one e=>fun δ S Y F=>(one=false→G.m0=none)∧den G.toGm e δ S Y fun d S1=>a1w tg one d δ S1 F.nx
 | .asu tg e=>fun δ S Y F=>G.m0=none∧den G.toGm e δ S Y fun d S1=>∃ ds,vw S1 d=.lst ds∧ds.length=tg.length∧F.nx (a3I δ tg ds) S1
 | .asl i e=>fun δ S Y F=>den G.toGm e δ S Y fun d S1=>F.nx (δ.set i (some d)) S1
 | .sti a b c=>fun δ S Y F=>den G.toGm c δ S Y fun z S1=>den G.toGm a δ S1 Y fun x S2=>den G.toGm b δ S2 Y fun y S3=>a7W x y z S3 fun S4=>F.nx δ S4
 | .stf a f c=>fun δ S Y F=>den G.toGm c δ S Y fun z S1=>den G.toGm a δ S1 Y fun x S2=>∃ p C fs,x=.obj p∧S2 p=some (.ins C fs)∧Cls G.K C∧NoAttr G.K C f∧fs.length < 1000∧F.nx δ (S2.set p (.ins C (a5A f z fs)))
 | .agv i op e=>fun δ S Y F=>∃ x,δ[i]?=some (some x)∧den G.toGm e δ S Y fun y S1=>b0T op x y S1 fun z S2=>F.nx (δ.set i (some z)) S2
 | .agi a b op e=>fun δ S Y F=>den G.toGm a δ S Y fun x S1=>den G.toGm b δ S1 Y fun y S2=>a6h x y S2 fun u S3=>den G.toGm e δ S3 Y fun w S4=>b0T op u w S4 fun z S5=>a7W x y z S5 fun S6=>F.nx δ S6
 | .ifs c a b=>fun δ S Y F=>a0o G.toGm c δ S Y fun k S1=>if k=true then a0c G a δ S1 Y F else a0c G b δ S1 Y F
 | .fr tg one it b=>fun δ S Y F=>G.m0=none∧a0P G.toGm it δ S Y fun ds ok S1=>∃ Iv:Nat→DS→SS→Prop,Iv 0 δ S1∧(∀ i δ' S',Iv i δ' S'→i≤ds.length→ok S') ∧
   (∀ i d δ' S',ds[i]?=some d→Iv i δ' S'→a1w tg one d δ' S' fun δ2 S2=>a0c G b δ2 S2 Y { F with nx:=Iv (i + 1),ct:=Iv (i + 1),bk:=F.nx })∧(∀ δ' S',Iv ds.length δ' S'→F.nx δ' S')
 | .frn j tg it b=>fun δ S Y F=>G.m0=none∧a0P G.toGm it δ S Y fun ds ok S1=>∃ Iv:Nat→DS→SS→Prop,Iv 0 δ S1∧(∀ i δ' S',Iv i δ' S'→i≤ds.length→ok S') ∧
   (∀ i d δ' S',ds[i]?=some d→Iv i δ' S'→b4c j tg d δ' S' fun δ2 S2=>a0c G b δ2 S2 Y { F with nx:=Iv (i + 1),ct:=Iv (i + 1),bk:=F.nx })∧(∀ δ' S',Iv ds.length δ' S'→F.nx δ' S')
 | .wh c b=>fun δ S Y F=>∃ Iv:Nat→DS→SS→Prop,(∃ m,Iv m δ S)∧∀ m δ' S',Iv m δ' S'→a0o G.toGm c δ' S' Y fun k S1 =>
   if k=true then a0c G b δ' S1 Y { F with nx:=fun δ2 S2=>∃ m',m' < m∧Iv m' δ2 S2,ct:=fun δ2 S2=>∃ m',m' < m∧Iv m' δ2 S2,bk:=F.nx } else F.nx δ' S1
 | .ret e=>fun δ S Y F=>den G.toGm e δ S Y F.rt
 | .retN=>fun δ S Y F=>F.rt .non S
 | .brk=>fun δ S Y F=>F.bk δ S
 | .cnt=>fun δ S Y F=>F.ct δ S
 | .pas=>fun δ S Y F=>F.nx δ S
 | .rai j es=>fun δ S Y F=>G.m0=none∧∃ kd,G.xk j=some kd∧es.len=kd.ar∧a0p G.toGm es δ S Y fun ds S1=>∃ fs,mkX kd ds=some fs∧Y (G.cl j) fs δ S1
 | .tra b j i s=>fun δ S Y F=>G.m0=none∧a0c G b δ S (fun C fs δ' S'=>∃ k,PySem.W.exmOne G.K (.ref C) (.ref (G.cl j))=some k ∧
   (k=true→∀ a oe,a0c (G.suite a oe) s (δ'.set i (some (.exc a oe C fs))) S' noX { F with nx:=fun δ2 S2=>F.nx (δ2.set i none) S2,bk:=fun δ2 S2=>F.bk (δ2.set i none) S2,ct:=fun δ2 S2=>F.ct (δ2.set i none) S2 }) ∧
   (k=false→Y C fs δ' S')) F
 | .tro b j s=>fun δ S Y F=>G.m0=none∧a0c G b δ S (fun C fs δ' S'=>∃ k,PySem.W.exmOne G.K (.ref C) (.ref (G.cl j))=some k∧(k=true→∀ a oe,a0c (G.suite a oe) s δ' S' noX F)∧(k=false→Y C fs δ' S')) F
 | .par i j es=>fun δ S Y F=>G.m0=none∧a0p G.toGm es δ S Y fun ds S1=>∃ v w,ds=[v,w]∧F.nx ((δ.set i (some v)).set j (some w)) S1
 | .tri i j l es=>fun δ S Y F=>G.m0=none∧a0p G.toGm es δ S Y fun ds S1=>∃ u v w,ds=[u,v,w]∧F.nx (((δ.set i (some u)).set j (some v)).set l (some w)) S1
 | .lck s=>fun δ S Y F=>∃ a kvs,S a=some (.dic kvs)∧a0l G s δ (S.set a (.loc kvs)) Y (F.unlock a kvs)
 | .nev=>fun _ _ _ _=>False
def a0c (G:Gs):RSs→RdS
 | .nil=>fun δ S Y F=>F.nx δ S
 | .cons s r=>fun δ S Y F=>a0l G s δ S Y { F with nx:=fun δ1 S1=>a0c G r δ1 S1 Y F }
 | .frz i r=>fun δ S Y F=>c2z i δ S fun δ1 S1=>a0c G r δ1 S1 Y F
 | .cut s r=>fun δ S Y F=>∃ J:DS→SS→Prop,a0l G s δ S Y { F with nx:=J }∧∀ δ1 S1,J δ1 S1→a0c G r δ1 S1 Y F
end
def nlc:Expr→Bool
 | .ListComp _ _ _ _=>false | .SetComp _ _ _ _=>false | .DictComp _ _ _ _ _=>false | _=>true
def ntup:Expr→Bool
 | .Tuple _ _ _=>false | _=>true
def a7G (sc:Scope) (x e:Expr):Bool:=nlc e || (match x with
 | .Name y p=>match sc.names.lookup y with
  | some .local=>!(p.line == e.pos.line)
  | _=>true
 | .Tuple _ _ _=>true
 | _=>false)
def a7x (sc:Scope):Expr→Bool
 | .Tuple [.Name y _,.Name z _] _ _=>!(decide (sc.names.lookup y=some .local) && decide (sc.names.lookup z=some .local))
 | .Tuple [.Name y _,.Name z _,.Name x _] _ _=>!(decide (sc.names.lookup y=some .local) && (decide (sc.names.lookup z=some .local) && decide (sc.names.lookup x=some .local)))
 | .Tuple (_ :: _ :: _ :: _ :: _) _ _=>true
 | _=>false
mutual
def a2I (n:SN) (sc:Scope):RS→Stmt→Bool
 | .exp e,x=>match x with
  | .Expr v _=>nlc v && chk n sc e v
  | _=>false
 | .asg tg one e,x=>match x with
  | .Assign [t] v _=>a7G sc t v && (one || ntup v || a7x sc t) && (a0U n sc tg one t && chk n sc e v)
  | _=>false
 | .asu tg e,x=>match x with
  | .Assign [t] v _=>a7G sc t v && (ntup v || a7x sc t) && (a0U n sc tg false t && chk n sc e v)
  | _=>false
 | .asl i e,x=>match x with
  | .Assign [.Name y py] (.ListComp xe [⟨xt,xi,ifs,0⟩] scope p) _=>match e with
   | .lc _ elt tg one it c own=>nmB n.N i y && decide (sc.names.lookup y=some .local) && (py.line == p.line) && !(scope.names.any fun (m,k)=>m == y && (k == .local || k == .cell)) &&
     (blkC n.N sc scope own && a1R xi && a5X n sc it xi && (tg.all fun i=>decide (i∈own.map (·.2))) && a0U n scope tg one xt && b3P n scope c ifs && chk n scope elt xe && (!it.two || !one))
   | _=>false
  | _=>false
 | .sti a b c,x=>match x with
  | .Assign [.Subscript l r _] v _=>a2v r && (chk n sc a l && (chk n sc b r && chk n sc c v))
  | _=>false
 | .stf a f c,x=>match x with
  | .Assign [.Attribute l f' _] v _=>decide (f'=f) && (chk n sc a l && chk n sc c v)
  | _=>false
 | .agv i op e,x=>match x with
  | .AugAssign (.Name y _) o v _=>nmB n.N i y && a7T sc y && decide (o=op) && chk n sc e v
  | _=>false
 | .agi a b op e,x=>match x with
  | .AugAssign (.Subscript l r _) o v _=>a2v r && decide (o=op) && (chk n sc a l && (chk n sc b r && chk n sc e v))
  | _=>false
 | .ifs c a b,x=>match x with
  | .If t p q _=>chk n sc c t && (a09 n sc a p && a09 n sc b q)
  | _=>false
 | .fr tg one it b,x=>match x with
  | .For t i p [] _=>a1R i && a0U n sc tg one t && (!it.two || !one) && (a5X n sc it i && a09 n sc b p)
  | _=>false
 | .frn j tg it b,x=>match x with
  | .For (.Tuple [.Name y _,t2] _ _) i p [] _=>a1R i && (nmB n.N j y && a7T sc y) && a0U n sc tg false t2 && (a5X n sc it i && a09 n sc b p)
  | _=>false
 | .wh c b,x=>match x with
  | .While t p [] _=>chk n sc c t && a09 n sc b p
  | _=>false
 | .ret e,x=>match x with
  | .Return (some v) _=>chk n sc e v
  | _=>false
 | .retN,x=>match x with
  | .Return none _=>true
  | _=>false
 | .brk,x=>match x with
  | .Break _=>true
  | _=>false
 | .cnt,x=>match x with
  | .Continue _=>true
  | _=>false
 | .pas,x=>match x with
  | .Pass _=>true
  | .Expr (.Constant (.str _) _ _) _=>true
  | _=>false
 | .rai j es,x=>match x with
  | .Raise (some (.Call (.Name y _) xs [] _)) none _=>nmB n.cls j y && glB sc y && a5Q n sc es xs
  | _=>false
 | .tra b j i s,x=>match x with
  | .Try p [.ExceptHandler (some (.Name y _)) (some m) (q :: qs) _] [] [] _=>nmB n.cls j y && glB sc y && nmB n.N i m && decide (sc.names.lookup m=some .local) && (a09 n sc b p && a09 n sc s (q :: qs))
  | _=>false
 | .tro b j s,x=>match x with
  | .Try p [.ExceptHandler (some (.Name y _)) none (q :: qs) _] [] [] _=>nmB n.cls j y && glB sc y && (a09 n sc b p && a09 n sc s (q :: qs))
  | _=>false
 | .par i j es,x=>match x with
  | .Assign [.Tuple [.Name y py,.Name z pz] _ _] (.Tuple [a,b] _ _) _=>nmB n.N i y && nmB n.N j z && decide (i≠j) && decide (sc.names.lookup y=some .local) && decide (sc.names.lookup z=some .local) && (py.line == pz.line) && decide ((y == z)=false) && a0t a && a0t b &&
    !([a,b].all (foldedForSure 8)) && !([a,b].all (constantsAlone 8)) && a5Q n sc es [a,b]
  | _=>false
 | .tri i j l es,x=>match x with
  | .Assign [.Tuple [.Name x px,.Name y py,.Name z pz] _ _] (.Tuple [a,b,c] _ _) _=>(nmB n.N i x && nmB n.N j y && nmB n.N l z && decide (i≠j) && decide (i≠l) && decide (j≠l)) && (decide (sc.names.lookup x=some .local) && decide (sc.names.lookup y=some .local) && decide (sc.names.lookup z=some .local)) && ((px.line == py.line) && (px.line == pz.line) && decide ([x,y,z].eraseDups=[x,y,z])) && (a0t a && a0t b && a0t c) &&
    !([a,b,c].all (foldedForSure 8)) && !([a,b,c].all (constantsAlone 8)) && a5Q n sc es [a,b,c]
  | _=>false
 | .lck s,x=>a2I n sc s x
 | .nev,_=>true
def a09 (n:SN) (sc:Scope):RSs→List Stmt→Bool
 | .nil,xs=>xs.isEmpty
 | .cons s r,xs=>match xs with
  | x :: xs=>a2I n sc s x && a09 n sc r xs
  | []=>false
 | .frz _ r,xs=>a09 n sc r xs
 | .cut s r,xs=>match xs with
  | x :: xs=>a2I n sc s x && a09 n sc r xs
  | []=>false
end
end Sv
namespace Sv
open PySem PySem.Spec PyProof.Rows L2
open L2H (RoomH)
def spI (C:Addr) (f:Str):SpM:=fun m vs H Q E=>∃ a y,vs=[V.ref a,y]∧H a=some (exo a C none)∧∀ dx,H dx=none→dx≠a→Q .non (upd (upd H dx (exd dx [(f,y)])) a (exo a C (some dx)))
def c36 (C:Addr) (f:Str) (ta:TA):L2.St→Hp→XK→Prop:=fun σ H Q=>ta σ H fun vs H1=>∃ y,vs=[y]∧∀ dx,H1 dx=none→Q (.ref C) (some dx) (upd H1 dx (.xd [(f,y)]))
theorem a5s {A:Around} {C:Addr} {us:List Value} {kw:List (Str × Value)}:(A.under (.builtin "type.__call__" ⟨.ref C :: us,kw⟩)).handled=A.handled:=rfl
theorem b0f {H:Hp} {a d:Addr} {o o' u v:HO} (fresh:H a=none):upd (del (upd (upd (upd H a o) d u) a o') a) d v=upd H d v:=by
 funext b
 simp only [upd,del]
 split
 ·rfl
 ·split
  ·rename_i e;rw [e,fresh]
  ·rfl
section
variable {X:Cx} {C fI:Addr} {x f:Str} {e:Expr} {es:List Expr} {p pos:Pos} {ta:TA}
theorem a7B {H:Hp} {a:Addr} {y:V} {Q:XK} (fresh:H a=none) (want:∀ d,H d=none→Q (.ref C) (some d) (upd H d (.xd [(f,y)]))) :
  spI C f none [.ref a,y] (upd H a (exo a C none)) (fun v H2=>v=.non∧∃ d fs,H2 a=some (exo a C (some d))∧H2 d=some (exd d fs)∧H d=none∧Q (.ref C) (some d) (upd (del H2 a) d (.xd fs))) fun _ _ _=>False:=by
 refine ⟨a,y,rfl,upd_same,fun d free apart=>?_⟩
 have free':H d=none:=by simpa only [upd,if_neg apart] using free
 refine ⟨rfl,d,[(f,y)],upd_same,?_,free',?_⟩
 ·simp only [upd,if_neg apart,if_true]
 ·rw [b0f fresh]
  exact want d free'
theorem b2J {kI:Nat} {fd:FuncData} {ps:List Str} (T:OexC X.K C) (own:PySem.W.findIn X.K (.ref C) "__init__" = some (some (.ref fI))) (isFn:PySem.W.typeIn X.K (.ref fI)=some (.type "function")) (F:FnG X.prog X.w X.K X.mg X.base false kI fI fd ps (spI C f))
  (room:RoomH (kI + 1) X.A) (md:a02 X none) (binds:L2.Binds X.K fd ps []) (gl:Gl X x) (at_x:X.mg x=some (.ref C)) (args:PA X (e :: es) ta) (db:(x == ("__debug__" : Str))=false)
  (plain:starEach (e :: es) X.env=(false,eval e X.env) :: starEach es X.env) (rest:(backTo pos (starEach es X.env)).any (·.1)=false):L2N.PMk X (.Call (.Name x p) (e :: es) [] pos) (c36 C f ta):=by
 intro pins s σ H Q I want
 have ⟨_,_,_,_,bm,_,_,_,_,_,_,_,_,_,_,at_C,roots⟩:=T.cls
 apply wpAny_Call_Name_kw (ld_glob I gl at_x ?_ db)
 apply PySem.W.callWith_K (h₀:=X.base) I.ok.mod.kin T.kC ?_ plain rest
 apply thn (args.run pos pins s σ H _ I want)
 rintro us ⟨hp,gs,dr,tk,os⟩ ⟨_,H1,J,rv,y,rfl,wish⟩
 refine ⟨J.kIn,wpAny_call ?_⟩
 have one:us.length=1:=rv.length.symm
 have young:H1 (hp.objs.size + 1)=none:=J.hok.fresh (Nat.le_succ hp.objs.size)
 have grows:∀ b o,hp.get? b=some o→((hp.push (PySem.W.kdv_tup us)).push (PySem.HandSPX.excO C hp.objs.size)).get? b=some o:=fun _ _ z=>Heap.get?_push_of_some _ (Heap.get?_push_of_some _ z)
 have J':=J.laid (t':=tk) grows (Nat.le_succ hp.objs.size) (exo_ok (P:=X.prog) (w:=X.w) (H:=upd H1 _ _) (e:=hp.objs.size + 1) (C:=C) (d:=none) (t1:=hp.objs.size) (by heap_get))
 have asked:=a7B (Q:=Q) young wish
 have given:Vals [.ref (hp.objs.size + 1),y] (.ref (hp.objs.size + 1) :: us):=.cons rfl rv
 have bound:=binds ⟨_,gs,dr,tk,os⟩ (.ref (hp.objs.size + 1) :: us) J'.kIn (by rw [List.append_nil,← given.length];exact F.len _ _ _ _ _ rfl asked)
 rw [List.append_nil] at bound
 have inner:=F.run _ X.stack _ _ ⟨.ref (hp.objs.size + 1) :: us,[]⟩ _ _ _ _ none rfl (room.make C us []) ⟨md.1,a5s.trans (J'.ok.hd md.2)⟩ (J'.env0.make C us []) bound given asked
 refine PySem.HandSPX.call_own PySem.F.excBase_ValueError (fun n=>PySem.HandSPX.refsVE_contains n bm roots) (J.kIn _ _ at_C) (PySem.W.looks_findIn J.kIn own) (fun o=>PySem.W.bind_fn J.kIn o isFn) (by show us.length≤_;rw [one,zai];decide) (codeAny_mono inner ?_)
 rintro (er | fl) ⟨h2,g2,d2,t2,os2⟩ told
 ·have ⟨_,_,_,_,_,_,_,_,_,_,_,_,never⟩:=told
  exact never.elim
 ·cases fl with
  | ret u =>
   obtain ⟨_,H2,sameOs,bare,un,hok,rel,rfl,d,fs,at_e,at_d,free,done⟩:=told
   have ⟨_,G,JG,keeps,away,lies,off⟩:=mk_end0 (d2:=d2) (t2:=t2) J (Nat.le_succ _) grows un hok sameOs bare at_e at_d free
   exact ⟨rel,_,_,_,⟨G,g2,d2,t2,os2⟩,_,.ref C,some d,rfl,JG,keeps,away,lies,⟨rfl,rfl,fun _ z=>by cases z;rfl⟩,rfl,rfl,off,rfl,bare,raises_own T.exC T.tyC,done⟩
  | _=>exact told.elim
theorem b0u {bmB:List Value} {B newId initId:String} (base:ExcBaseFacts B newId initId bmB) (isExc:PySem.W.excIn X.K C bmB newId=true) (kept:PySem.W.keepIn X.K (.ref C)=true) (raises:Raises X (.ref C)) (gl:Gl X x) (at_x:X.mg x=some (.ref C)) (db:(x == ("__debug__" : Str))=false) :
  L2N.PMk X (.Call (.Name x p) [] [] pos) fun _ H Q=>Q (.ref C) none H:=fun _ _ _ _ _ I want =>
 have ⟨_,_,_,_,_,_,_,_,_,_,_,_,_,_,_,_,_,at_C,names,noInit,tail⟩:=exc_obj I.kIn isExc
 wpAny_Call_Name_kw (ld_glob I gl at_x (PySem.W.callWith_K0 I.kIn kept (wpAny_call_exc_subT base tail at_C names noInit (fun _ _ new=>L2N.mk_of I new raises want (I.hok.gone new.new)) (Nat.zero_le _))) db)
theorem b0q {B:Addr} {z:Str} {p1 p2:Pos} {pl:Sem Bool} (gl:Gl X z) (at_z:X.mg z=some (.ref B)) (db:(z == ("__debug__" : Str))=false) (reads:PySem.W.readsIn X.K B (.type "type")=true) (plainGa:PySem.W.specialIn X.K (.ref B) "__getattribute__" = some (some (.builtin "type.__getattribute__")))
  (found:PySem.W.findCls X.K (.ref B) (.type "type") "__init__" = some (.val (.builtin "ValueError.__init__"))) (args:PA X (e :: es) ta)
  (form:eval (.Call (.Attribute (.Name z p1) "__init__" p2) (e :: es) [] pos) X.env=(do let ov ← eval (.Name z p1) X.env;standAt p2.atName;let (g,first) ← holding [ov] (getMethod ov "__init__" pl);callWith pos g first (backTo pos (starEach (e :: es) X.env)) (backToKw pos (keywordEach [] X.env))))
  (plain:starEach (e :: es) X.env=(false,eval e X.env) :: starEach es X.env) (rest:(backTo pos (starEach es X.env)).any (·.1)=false):PE X (.Call (.Attribute (.Name z p1) "__init__" p2) (e :: es) [] pos) (tVeI X.K ta) where
 run pins s σ H Q I want:=by
  apply PySem.W.methodCall_KW (ld_glob I gl at_z (PySem.W.method_cls I.kIn plainGa (PySem.W.cls_value I.kIn reads found (by decide +kernel) ?_)) db) form
  apply PyProof.Rows.callWith_method1 (first:=[]) ?_ plain rest
  apply thn (args.run pos pins _ σ H _ (I.tok _) want)
  rintro _ _ ⟨_,H1,J,rv,a,C,ws,rfl,few,T,at_a,q⟩
  cases rv with
  | cons r0 r1 =>
   cases r0
   exact oinit_ok T J at_a (by rw [← Paired.length r1,zai];omega) fun _ J'=>⟨.non,H1,J',rfl,q⟩
end
end Sv
namespace Sv
open PySem PySem.Spec PyProof.Rows L2
open L2H (RoomH)
structure b7t (K:zbj) (B:Addr):Prop where
 rd:PySem.W.readsIn K B (.type "type")=true
 ga:PySem.W.specialIn K (.ref B) "__getattribute__" = some (some (.builtin "type.__getattribute__"))
 vV:PySem.W.findCls K (.ref B) (.type "type") "__init__" = some (.val (.builtin "ValueError.__init__"))
def b1P (N:List Str) (scope:Scope) (f:Str) (body:List Stmt) (z:Str):Bool:=match body with
 | [.Expr (.Call (.Attribute (.Name z' _) m ap) [.Name s1 _,.Constant (.str _) _ _] [] cp) _,.Assign [.Attribute (.Name s2 _) f' _] (.Name y _) _] =>
  nmB N 0 s1 && nmB N 0 s2 && nmB N 1 y && b0Q scope s1 && b0Q scope s2 && b0Q scope y && decide (z'=z) && glB scope z && decide ((z == ("__debug__" : Str))=false) && decide (m=("__init__" : Str)) && decide (f'=f) && (ap.endLine == cp.line) && decide (N.length=2) && decide (z≠("super" : Str))
 | _=>false
theorem b1J {P:Program} {w:World} {K:zbj} {mg:Str→Option Value} {base:Heap} {k:Nat} {f:Addr} {name qual:Str} {params:Arguments} {body:List Stmt} {scope:Scope} {dV kV doc pm cdv ct oc:Value} {an od:Option Addr}
  {osl:Array (Option Value)} {N:List Str} {C B:Addr} {z fl:Str} (lk:K.lookup f=some ⟨oc,od,.func (PySem.W.fnOf name qual params body scope dV kV doc pm an cdv ct),osl⟩) (hcd:PySem.W.codeIn K cdv qual=true) (S:FnScope N N scope)
  (hb:b1P N scope fl body z=true) (hz:mg z=some (.ref B)) (bf:b7t K B) (T:OexC K C) (no:PySem.W.findIn K (.ref C) fl=some none) :
  FnG P w K mg base false (k + 1) f (PySem.W.fnOf name qual params body scope dV kV doc pm an cdv ct) N (spI C fl):=by
 unfold b1P at hb
 split at hb
 ·rename_i z' p1 m ap s1 p2 j0 j1 j2 cp p3 s2 p4 f' p5 y p6 p7
  simp only [zak,zah] at hb
  obtain ⟨⟨⟨⟨⟨⟨⟨⟨⟨⟨⟨⟨⟨n1,n2⟩,n3⟩,v1⟩,v2⟩,v3⟩,rfl⟩,g1⟩,d1⟩,rfl⟩,rfl⟩,ln⟩,l2⟩,ns⟩:=hb
  refine b0X lk hcd S (fun m vs H Q E _ h=>?_) fun A outer s H vs Q E m hm hM hr hsp=>?_
  ·obtain ⟨a,y0,rfl,_⟩:=h
   rw [l2];rfl
  ·have hm0:m=none:=by cases m with | none=>rfl | some _=>cases hm
   subst hm0
   obtain ⟨a,y0,rfl,ha,q⟩:=hsp
   have pv:∀ {x:Str} {i:Nat} {p:Pos},nmB N i x=true→b0Q scope x=true→PE (cxM P w K mg base N qual scope f cdv A outer s H E none) (.Name x p) (tVar i):=fun {x i p} h1 h2=>pe_var (a0E h1).1 (a6z h2) (a0E h1).2.1 (a0E h1).2.2
   refine ⟨_,pss_cons (ps_expr (b0q (B:=B) (show Gl _ z' from a8x g1) hz d1 bf.rd bf.ga bf.vV (pa_cons (pv n1 v1) (pa_cons pe_str pa_nil rfl) rfl) (a6l (by simpa [a7U] using fun _=>ns) rfl (by show 2 < 30;decide) ln) rfl rfl) rfl) (pss_one (ps_ost (pv n2 v2) (pv n3 v3) rfl)),?_⟩
   have e0:(L2.start N [V.ref a,y0])=[some (V.ref a),some y0]:=by
    unfold L2.start
    rw [l2];rfl
   rw [e0]
   refine ⟨V.ref a,rfl,?_⟩
   refine ⟨a,C,_,rfl,(by show 1≤1000;decide),T,ha,?_⟩
   refine ⟨y0,rfl,V.ref a,rfl,a,C,rfl,T,no,.inl ⟨ha,fun dx hd hne=>q dx hd hne⟩⟩
 ·cases hb
end Sv
namespace Sv
open PySem PySem.Spec PyProof.Rows L2
open L2H (RoomH)
inductive MkF (P:Program) (w:World) (K:zbj) (mg:Str→Option Value) (base:Heap) (k:Nat) (C:Addr):XKd→Prop
 | fld {f:Str} {fI:Addr} {fd:FuncData} {ps:List Str} {kI:Nat} (T:OexC K C) (iC:PySem.W.findIn K (.ref C) "__init__" = some (some (.ref fI))) (tI:PySem.W.typeIn K (.ref fI)=some (.type "function")) (F:FnG P w K mg base false kI fI fd ps (spI C f)) (b:L2.Binds K fd ps []) (h:kI + 1≤k):MkF P w K mg base k C (.fld f)
 | bare {bmB:List Value} {B newId initId:String} (Fb:ExcBaseFacts B newId initId bmB) (q:PySem.W.excIn K C bmB newId=true) (kC:PySem.W.keepIn K (.ref C)=true) (e1:PySem.W.subIn K (.ref C) (.type "BaseException")=some true) (e2:PySem.W.typeIn K (.ref C)=some (.type "type")):MkF P w K mg base k C .bare
structure XS (n:SN) (X:Cx) (G:Gs) (W:WX) (k:Nat) (sc:Scope):Prop where
 xc:XC n X G.toGm W k sc
 esc:X.env.scope=sc
 fn:∀ x,X.fn x=true
 stk:X.stack=X.env :: X.outer
 fr:X.env.frame=some X.env.locals
 xm:∀ j x kd,G.xk j=some kd→n.cls[j]?=some x→MkF X.prog X.w X.K X.mg X.base k (G.cl j) kd
section
variable {n:SN} {X:Cx} {G:Gs} {W:WX} {k:Nat} {sc:Scope}
theorem XC.tr (c:XC n X G.toGm W k sc) {W':WX} {pn:List (Addr × Obj)} {xe:Value→Shared→Prop} (hm:G.m0=none) (tk:L2N.Takes (X.tr pn xe) W') (ps:PassesOwn (model X.prog X.w) X.A X.env xe):XC n (X.tr pn xe) G.toGm W' k sc :=
 ⟨c.ok,c.N,⟨c.sc.vis,c.sc.loc,c.sc.gl,c.sc.fr⟩,c.rm,by have:=c.md;rw [hm] at this ⊢;exact this,tk,ps⟩
theorem XS.tr (c:XS n X G W k sc) {W':WX} {pn:List (Addr × Obj)} {xe:Value→Shared→Prop} (hm:G.m0=none) (tk:L2N.Takes (X.tr pn xe) W') (ps:PassesOwn (model X.prog X.w) X.A X.env xe):XS n (X.tr pn xe) G W' k sc :=
 ⟨c.xc.tr hm tk ps,c.esc,c.fn,c.stk,c.fr,c.xm⟩
theorem GOk.suite {P:Program} {w:World} {K:zbj} {mg:Str→Option Value} {base:Heap} {G:Gm} {m:Option (Addr × Obj)} (h:GOk n P w K mg base G k):GOk n P w K mg base { G with m0:=m } k :=
 ⟨h.K,h.nd,h.fn,h.meth,h.made,h.gv,h.cl,h.bt,h.kd⟩
theorem XS.suite (c:XS n X G W k sc) {a:Addr} {oe:Obj} {pn:List (Addr × Obj)} {cls:Value} {d:Option Addr} (hz:L2N.Zn cls d oe) (hd:∃ vs,oe.data=.fields vs):XS n (X.suite a ((a,oe) :: pn)) (G.suite a oe) noW k sc :=
 ⟨⟨c.xc.ok.suite,c.xc.N,⟨c.xc.sc.vis,c.xc.sc.loc,c.xc.sc.gl,c.xc.sc.fr⟩,⟨c.xc.rm.dp,c.xc.rm.un⟩,by
   obtain ⟨vs,hv⟩:=hd
   exact ⟨c.xc.md.1,⟨rfl,vs,hv,hz.2.2 vs hv⟩,zal⟩,fun u s' ⟨_,_,_,_,_,_,_,_,_,_,_,_,_,_,_,_,z⟩=>z.elim,PassesOwn.never⟩,
  c.esc,c.fn,c.stk,c.fr,c.xm⟩
end
def c1G (n:SN) (sc:Scope) (s:RS) (x:Stmt):Prop:=∀ X G W k,XS n X G W k sc→PS X x (LS G.toGd W (a0l G s))
def a73 (n:SN) (sc:Scope) (s:RSs) (x:List Stmt):Prop:=∀ X G W k,XS n X G W k sc→PSs X x (LS G.toGd W (a0c G s))
theorem b05 {e:Expr} {t:Option Expr} {l:Nat} {env:Env} (h:nlc e=true):swapsWith e t l env=pure false:=by
 cases e <;> first | rfl | cases h
section
variable {n:SN} {X:Cx} {G:Gs} {W:WX} {k:Nat} {sc:Scope} {pos:Pos}
theorem a7a {t e:Expr} {l:Nat} (esc:X.env.scope=sc) (h:a7G sc t e=true):swapsWith e (some t) l X.env=pure false:=by
 unfold a7G at h
 rw [Bool.or_eq_true] at h
 rcases h with h | h
 ·exact b05 h
 ·split at h
  ·rename_i y p
   have key:(X.env.blockKind == .function && X.env.kindOf y == some .local && p.line == e.pos.line)=false:=by
    split at h
    ·have:(p.line == e.pos.line)=false:=by simpa using h
     rw [this,Bool.and_false]
    ·rename_i hne
     have:(X.env.kindOf y == some .local)=false:=by
      have e1:X.env.kindOf y=sc.names.lookup y:=by rw [← esc];rfl
      rw [e1]
      exact Bool.eq_false_iff.mpr fun z=>hne (eq_of_beq z)
     rw [this,Bool.and_false,Bool.false_and]
   unfold swapsWith
   cases e <;> first | rfl | (simp only [key,Bool.false_and];done) | (simp only [key,Bool.false_and];rfl)
  ·unfold swapsWith
   cases e <;> rfl
  ·cases h
theorem a3N {t e:Expr} (h:ntup e=true):swappedStores [t] e X.env=pure none:=by
 unfold swappedStores
 cases t <;> cases e <;> first | rfl | cases h
theorem a7H {t:Expr} {one:Bool} {tg:List Nat} (h:a0U n sc tg one t=true) (ho:one=true) {e:Expr}:swappedStores [t] e X.env=pure none:=by
 subst ho
 unfold a0U at h
 rw [if_pos rfl] at h
 split at h
 ·unfold swappedStores;cases e <;> rfl
 ·cases h
theorem LS.mk' {s:RS} {x:Stmt} {t:TS} (h:PS X x t) (w:∀ D σ H δ S Y F,Rel G.toGd S H δ σ→a0l G s δ S Y F→b3u G.toGd S H F D→a5P G.toGd S H Y W→t D σ H):PS X x (LS G.toGd W (a0l G s)) :=
 PS.imp h fun D σ H q=>by
  obtain ⟨δ,S,Y,F,R,ht,rs,rw'⟩:=q
  exact w D σ H δ S Y F R ht rs rw'
theorem a3M {t e:Expr} (esc:X.env.scope=sc) (h:a7x sc t=true):swappedStores [t] e X.env=pure none:=by
 unfold a7x at h
 split at h
 ·rename_i y py z pz kt pt
  have few:([Expr.Name y py,.Name z pz].filterMap fun
   | .Name id pos=>if X.env.kindOf id == some .local && pos.line == (Expr.Name y py).pos.line then some id else none
   | _=>none).length≠2:=by
   have ky:X.env.kindOf y=sc.names.lookup y:=by rw [← esc];rfl
   have kz:X.env.kindOf z=sc.names.lookup z:=by rw [← esc];rfl
   simp only [List.filterMap_cons,List.filterMap_nil,ky,kz]
   rw [Bool.not_eq_true',Bool.and_eq_false_iff,decide_eq_false_iff_not,decide_eq_false_iff_not] at h
   rcases h with h | h
   ·have e:(sc.names.lookup y == some NameKind.local)=false:=by rw [beq_eq_false_iff_ne];exact h
    rw [e,Bool.false_and,if_neg zbe]
    dsimp only
    split <;> simp
   ·have e:(sc.names.lookup z == some NameKind.local)=false:=by rw [beq_eq_false_iff_ne];exact h
    rw [e,Bool.false_and,if_neg zbe]
    dsimp only
    split <;> simp
  unfold swappedStores
  cases e <;> first | rfl | skip
  dsimp only
  split
  ·rfl
  ·split
   ·rfl
   ·refine if_pos ?_
    rw [Bool.or_eq_true]
    left
    exact bne_iff_ne.mpr few
 ·rename_i y py z pz x px kt pt
  have few:([Expr.Name y py,.Name z pz,.Name x px].filterMap fun
   | .Name id pos=>if X.env.kindOf id == some .local && pos.line == (Expr.Name y py).pos.line then some id else none
   | _=>none).length≠3:=by
   have ky:X.env.kindOf y=sc.names.lookup y:=by rw [← esc];rfl
   have kz:X.env.kindOf z=sc.names.lookup z:=by rw [← esc];rfl
   have kx:X.env.kindOf x=sc.names.lookup x:=by rw [← esc];rfl
   simp only [List.filterMap_cons,List.filterMap_nil,ky,kz,kx]
   rw [Bool.not_eq_true',Bool.and_eq_false_iff,Bool.and_eq_false_iff,decide_eq_false_iff_not,decide_eq_false_iff_not,decide_eq_false_iff_not] at h
   rcases h with h | h | h
   ·have e:(sc.names.lookup y == some NameKind.local)=false:=by rw [beq_eq_false_iff_ne];exact h
    rw [e,Bool.false_and,if_neg zbe]
    dsimp only
    split <;> split <;> simp
   ·have e:(sc.names.lookup z == some NameKind.local)=false:=by rw [beq_eq_false_iff_ne];exact h
    rw [e,Bool.false_and,if_neg zbe]
    dsimp only
    split <;> split <;> simp
   ·have e:(sc.names.lookup x == some NameKind.local)=false:=by rw [beq_eq_false_iff_ne];exact h
    rw [e,Bool.false_and,if_neg zbe]
    dsimp only
    split <;> split <;> simp
  unfold swappedStores
  cases e <;> first | rfl | skip
  dsimp only
  split
  ·rfl
  ·split
   ·rfl
   ·refine if_pos ?_
    rw [Bool.or_eq_true]
    left
    exact bne_iff_ne.mpr few
 ·rename_i a1 a2 a3 a4 r kt pt
  unfold swappedStores
  cases e <;> first | rfl | skip
 ·cases h
theorem a3X {t:Expr} {one:Bool} {tg:List Nat} (h:a0U n sc tg one t=true):(assignEach [t] X.env).map (·.2)=[assign t X.env]:=by
 unfold a0U at h
 cases one with
 | true =>
  rw [if_pos rfl] at h
  split at h
  ·rfl
  ·cases h
 | false =>
  rw [if_neg zbe] at h
  split at h
  ·rfl
  ·cases h
theorem b5Q {tg:List Nat} {one:Bool} {e:RE} {t v:Expr} (c:XS n X G W k sc) (h1:a7G sc t v=true) (h2:(one || ntup v || a7x sc t)=true) (h3:a0U n sc tg one t=true) (he:PE X v (LE G.toGd W (den G.toGm e))):PS X (.Assign [t] v pos) (LS G.toGd W (a0l G (.asg tg one e))):=by
 by_cases hm:one=false→G.m0=none
 ·have calm:one=false→X.calm=true:=fun h=>by
   have:=c.xc.md
   rw [hm h] at this
   exact this.2
  have hw:swappedStores [t] v X.env=pure none:=by
   cases one with
   | true=>exact a7H h3 rfl
   | false =>
    rw [Bool.false_or,Bool.or_eq_true] at h2
    rcases h2 with h2 | h2
    ·exact a3N h2
    ·exact a3M c.esc h2
  refine LS.mk' (ps_asg he (a9b c.xc calm h3) (a7a c.esc h1) hw (a3X h3)) fun D σ H δ S Y F R ht rs rw'=>?_
  rw [a0l] at ht
  refine ⟨δ,S,Y,_,R,ht.2,fun d S1 v1 H1 kk P cc r=>?_,rw'⟩
  rw [← c.xc.ok.K]
  exact a6Q (I:=fun _=>True) (fun _ _ _ _ _=>trivial) kk r (R.mono P cc) trivial fun δ' σ' q R' _=>rs.nx δ' S1 σ' H1 q P R'
 ·refine LS.mk' ps_never fun D σ H δ S Y F R ht rs rw'=>?_
  rw [a0l] at ht
  exact (hm ht.1).elim
theorem b5S {tg:List Nat} {e:RE} {t v:Expr} (c:XS n X G W k sc) (h1:a7G sc t v=true) (h2:(ntup v || a7x sc t)=true) (h3:a0U n sc tg false t=true) (he:PE X v (LE G.toGd W (den G.toGm e))):PS X (.Assign [t] v pos) (LS G.toGd W (a0l G (.asu tg e))):=by
 by_cases hm:G.m0=none
 ·have calm:X.calm=true:=by
   have:=c.xc.md
   rw [hm] at this
   exact this.2
  have hw:swappedStores [t] v X.env=pure none:=by
   rw [Bool.or_eq_true] at h2
   rcases h2 with h2 | h2
   ·exact a3N h2
   ·exact a3M c.esc h2
  refine LS.mk' (ps_asg he (c3c c.xc calm h3) (a7a c.esc h1) hw (a3X h3)) fun D σ H δ S Y F R ht rs rw'=>?_
  rw [a0l] at ht
  refine ⟨δ,S,Y,_,R,ht.2,fun d S1 v1 H1 kk P cc r=>?_,rw'⟩
  obtain ⟨ds,e1,e2,nx⟩:=kk
  exact ⟨d,δ,S1,fun δ' S'=>F.nx δ' S'∧S'=S1,R.mono P cc,r,⟨ds,e1,e2,nx,rfl⟩,fun δ' S' σ' H' q P2 R'=>rs.nx δ' S' σ' H' q.1 (P.trans P2) R'⟩
 ·refine LS.mk' ps_never fun D σ H δ S Y F R ht rs rw'=>?_
  rw [a0l] at ht
  exact (hm ht.1).elim
theorem b5T {e:RE} {v:Expr} (h1:nlc v=true) (he:PE X v (LE G.toGd W (den G.toGm e))):PS X (.Expr v pos) (LS G.toGd W (a0l G (.exp e))) :=
 LS.mk' (ps_expr he (b05 h1)) fun D σ H δ S Y F R ht rs rw'=>by
  rw [a0l] at ht
  exact ⟨δ,S,Y,_,R,ht,fun d S1 v1 H1 kk P cc r=>rs.nx δ S1 σ H1 kk P (R.mono P cc),rw'⟩
theorem b52 {a b e:RE} {l r v:Expr} {p1:Pos} (c:XS n X G W k sc) (h2:a2v r=true) (ha:PE X l (LE G.toGd W (den G.toGm a))) (hb:PE X r (LE G.toGd W (den G.toGm b))) (he:PE X v (LE G.toGd W (den G.toGm e))) :
  PS X (.Assign [.Subscript l r p1] v pos) (LS G.toGd W (a0l G (.sti a b e))):=by
 have hst:swappedStores [.Subscript l r p1] v X.env=pure none:=by unfold swappedStores;cases v <;> rfl
 have haa:∀ v,assign (.Subscript l r p1) X.env v=(do
   let ov ← holding [v] (eval l X.env)
   let iv ← holding [v,ov] (eval r X.env)
   standAt p1
   holding [v,ov,iv] (setItem ov iv v)
   release [v,ov,iv] []):=by
  intro v
  cases r <;> first | rfl | cases h2
 refine LS.mk' (ps_asg he (pg_sub ha hb (a9p (g:=G.toGd) (by have:=c.xc.un;omega)) haa) (show swapsWith v (some (.Subscript l r p1)) pos.line X.env=pure false from by unfold swapsWith;cases v <;> rfl) hst rfl) fun D σ H δ S Y F R ht rs rw'=>?_
 rw [a0l] at ht
 refine ⟨δ,S,Y,_,R,ht,fun z S1 v1 H1 kk P cc r1=>?_,rw'⟩
 refine ⟨δ,S1,Y,_,R.mono P cc,kk,fun x S2 v2 H2 kk P2 cc2 r2=>?_,rw'.mono P⟩
 refine ⟨δ,S2,Y,_,(R.mono P cc).mono P2 cc2,kk,fun y S3 v3 H3 kk P3 cc3 r3=>?_,(rw'.mono P).mono P2⟩
 have P23:=P2.trans P3
 exact ⟨x,y,z,S3,_,cc3,r2.mono P3,r3,r1.mono P23,kk,fun S4 H4 q P4 cc4=>rs.nx δ S4 σ H4 q ((P.trans P23).trans P4) (R.mono ((P.trans P23).trans P4) cc4)⟩
theorem b51 {a e:RE} {l v:Expr} {f:Str} {p1:Pos} (c:XS n X G W k sc) (ha:PE X l (LE G.toGd W (den G.toGm a))) (he:PE X v (LE G.toGd W (den G.toGm e))) :
  PS X (.Assign [.Attribute l f p1] v pos) (LS G.toGd W (a0l G (.stf a f e))):=by
 refine LS.mk' (ps_fld ha he (by unfold swapsWith;cases v <;> rfl)) fun D σ H δ S Y F R ht rs rw'=>?_
 rw [a0l] at ht
 refine ⟨δ,S,Y,_,R,ht,fun z S1 v1 H1 kk P cc r1=>?_,rw'⟩
 refine ⟨δ,S1,Y,_,R.mono P cc,kk,fun x S2 v2 H2 kk P2 cc2 r2=>?_,rw'.mono P⟩
 obtain ⟨p,C,fs,rfl,e1,cl,na,hl,q⟩:=kk
 cases a0q r2
 obtain ⟨dx,ws,hi,hf⟩:=cc2 _ _ e1
 rw [c.xc.ok.K] at cl na
 have P3:a0d S2 H2 (S2.set p (.ins C (a5A f z fs))) (upd H2 p (.ins C dx (putF f v1 ws))):=a0d.write e1
 refine ⟨p,C,dx,ws,rfl,hi,cl,na,by rw [← c1d hf];exact hl,rs.nx δ _ σ _ q ((P.trans P2).trans P3) (R.mono ((P.trans P2).trans P3) (cc2.write e1 ⟨dx,_,upd_same,(a7f (r1.mono P2) hf).mono P3⟩))⟩
theorem b5P {i:Nat} {op:Operator} {e:RE} {y:Str} {v:Expr} {p1:Pos} (c:XS n X G W k sc) (h1:nmB n.N i y=true) (h2:a7T sc y=true) (he:PE X v (LE G.toGd W (den G.toGm e))):PS X (.AugAssign (.Name y p1) op v pos) (LS G.toGd W (a0l G (.agv i op e))):=by
 refine LS.mk' (ps_aug c.xc.nd (c.xc.at h1) (c.xc.loc h2) he (a8e (g:=G.toGd) op) (c.xc.sto h2)) fun D σ H δ S Y F R ht rs rw'=>?_
 rw [a0l] at ht
 obtain ⟨x,ex,ht⟩:=ht
 obtain ⟨u,eu,ru⟩:=R.sl.at_ i x ex
 refine ⟨u,eu,δ,S,Y,_,R,ht,fun d S1 v1 H1 kk P cc r=>?_,rw'⟩
 exact ⟨x,d,S1,_,cc,ru.mono P,r,kk,fun z S2 v2 H2 q P2 cc2 r2=>rs.nx _ S2 _ H2 q (P.trans P2) ⟨(R.sl.mono (P.trans P2)).set r2,cc2⟩⟩
theorem b5O {a b e:RE} {op:Operator} {l r v:Expr} {p1:Pos} (c:XS n X G W k sc) (h2:a2v r=true) (ha:PE X l (LE G.toGd W (den G.toGm a))) (hb:PE X r (LE G.toGd W (den G.toGm b))) (he:PE X v (LE G.toGd W (den G.toGm e))) :
  PS X (.AugAssign (.Subscript l r p1) op v pos) (LS G.toGd W (a0l G (.agi a b op e))):=by
 have hau:∀ ov iv new,augStore r ov iv new=(do holding [new,ov,iv] (setItem ov iv new);release [new,ov,iv] [];pure .next):=by
  intro ov iv new
  cases r <;> first | rfl | cases h2
 have hu:X.A.units + 1 < cLine:=by have:=c.xc.un;omega
 refine LS.mk' (ps_augS ha hb (b1K (g:=G.toGd) hu) he (a8e (g:=G.toGd) op) (a9p (g:=G.toGd) hu) hau) fun D σ H δ S Y F R ht rs rw'=>?_
 rw [a0l] at ht
 refine ⟨δ,S,Y,_,R,ht,fun x S1 v1 H1 kk P cc r1=>?_,rw'⟩
 refine ⟨δ,S1,Y,_,R.mono P cc,kk,fun y S2 v2 H2 kk P2 cc2 r2=>?_,rw'.mono P⟩
 refine ⟨x,y,S2,_,cc2,r1.mono P2,r2,kk,fun u S3 v3 H3 kk P3 cc3 r3=>?_⟩
 have Q3:=(P.trans P2).trans P3
 refine ⟨δ,S3,Y,_,R.mono Q3 cc3,kk,fun w S4 v4 H4 kk P4 cc4 r4=>?_,rw'.mono Q3⟩
 refine ⟨u,w,S4,_,cc4,r3.mono P4,r4,kk,fun z S5 v5 H5 kk P5 cc5 r5=>?_⟩
 have P35:=(P3.trans P4).trans P5
 refine ⟨x,y,z,S5,_,cc5,r1.mono (P2.trans P35),r2.mono P35,r5,kk,fun S6 H6 q P6 cc6=>rs.nx δ S6 σ H6 q (((Q3.trans P4).trans P5).trans P6) (R.mono (((Q3.trans P4).trans P5).trans P6) cc6)⟩
theorem b5V {c0:RE} {a b:RSs} {t:Expr} {p q:List Stmt} (ht:PT X t (LT G.toGd W (a0o G.toGm c0))) (ha:PSs X p (LS G.toGd W (a0c G a))) (hb:PSs X q (LS G.toGd W (a0c G b))):PS X (.If t p q pos) (LS G.toGd W (a0l G (.ifs c0 a b))):=by
 refine LS.mk' (ps_if ht ha hb) fun D σ H δ S Y F R ht rs rw'=>?_
 rw [a0l] at ht
 refine ⟨δ,S,Y,_,R,ht,fun b S1 H1 kk P cc=>?_,rw'⟩
 cases b with
 | true=>exact ⟨δ,S1,Y,F,R.mono P cc,kk,rs.mono P,rw'.mono P⟩
 | false=>exact ⟨δ,S1,Y,F,R.mono P cc,kk,rs.mono P,rw'.mono P⟩
theorem c0J {c0:RE} {b:RSs} {t:Expr} {p:List Stmt} (c:XS n X G W k sc) (ht:PT X t (LT G.toGd W (a0o G.toGm c0))) (hb:PSs X p (LS G.toGd W (a0c G b))):PS X (.While t p [] pos) (LS G.toGd W (a0l G (.wh c0 b))):=by
 refine LS.mk' (ps_while c.xc.ps ht hb) fun D σ H δ S Y F R ht rs rw'=>?_
 rw [a0l] at ht
 obtain ⟨Iv,⟨m0,i0⟩,step⟩:=ht
 refine ⟨fun m σ' H'=>∃ δ' S',Iv m δ' S'∧a0d S H S' H'∧Rel G.toGd S' H' δ' σ',⟨m0,δ,S,i0,a0d.refl _ _,R⟩,?_⟩
 rintro m σ1 H1 ⟨δ1,S1,iv,P1,R1⟩
 refine ⟨δ1,S1,Y,_,R1,step m δ1 S1 iv,fun b S2 H2 kk P2 cc2=>?_,rw'.mono P1⟩
 have P12:=P1.trans P2
 cases b with
 | true =>
  refine ⟨fun σ' H'=>∃ m',m' < m∧∃ δ' S',Iv m' δ' S'∧a0d S H S' H'∧Rel G.toGd S' H' δ' σ',fun σ' H' q=>q,?_⟩
  have nx:∀ δ' S' σ' H',(∃ m',m' < m∧Iv m' δ' S')→a0d S2 H2 S' H'→Rel G.toGd S' H' δ' σ'→∃ m',m' < m∧∃ δ' S',Iv m' δ' S'∧a0d S H S' H'∧Rel G.toGd S' H' δ' σ':=fun δ' S' σ' H' ⟨m',hm,q⟩ P' R'=>⟨m',hm,δ',S',q,P12.trans P',R'⟩
  exact ⟨δ1,S2,Y,_,R1.mono P2 cc2,kk,⟨nx,rs.rt.mono P12,fun δ' S' σ' H' q P' R'=>rs.nx δ' S' σ' H' q (P12.trans P') R',nx⟩,rw'.mono P12⟩
 | false=>exact rs.nx δ1 S2 σ1 H2 kk P12 (R1.mono P2 cc2)
theorem c0I {tg:List Nat} {one:Bool} {it:RI} {b:RSs} {t i:Expr} {p:List Stmt} (c:XS n X G W k sc) (h1:a1R i=true) (h2:a0U n sc tg one t=true) (h3:(!it.two || !one)=true) (hI:b3A n sc it i) (hb:PSs X p (LS G.toGd W (a0c G b))):PS X (.For t i p [] pos) (LS G.toGd W (a0l G (.fr tg one it b))):=by
 by_cases hm:G.m0=none
 ·have md:a02 X none:=by have:=c.xc.md;rw [hm] at this;exact this
  have calm:X.calm=true:=md.2
  refine LS.mk' (ps_for c.xc.ps calm (hI X G.toGm W k t c.xc hm (a9B h2 h3)) (a9b c.xc (fun _=>calm) h2) hb (fun x=>a3e h1 x)) fun D σ H δ S Y F R ht rs rw'=>?_
  rw [a0l] at ht
  refine ⟨δ,S,Y,_,R,ht.2,fun ds ok S1 H1 J hk P1 c1 io=>?_,rw'⟩
  obtain ⟨Iv,i0,hok,step,last⟩:=hk
  refine ⟨fun i m σ' H'=>m=ds.length - i∧i≤ds.length∧∃ δ' S',Iv i δ' S'∧a0d S1 H1 S' H'∧Rel G.toGd S' H' δ' σ',⟨_,rfl,Nat.zero_le _,δ,S1,i0,a0d.refl _ _,R.mono P1 c1⟩,?_⟩
  rintro i m σ' H' ⟨rfl,hi,δ',S',iv,P',R'⟩
  have ok':=hok i δ' S' iv hi
  by_cases hlt:i < ds.length
  ·refine .inr ⟨io.go i S' H' hlt P' R'.ce ok',fun σ2 H2=>i + 1≤ds.length∧∃ δ' S',Iv (i + 1) δ' S'∧a0d S1 H1 S' H2∧Rel G.toGd S' H2 δ' σ2,fun σ2 H2 q=>⟨_,by omega,rfl,q⟩,fun x H2 y=>?_⟩
   obtain ⟨P2,c2,r2⟩:=io.yl i S' H' x H2 ds[i] (by simp) P' R'.ce ok' y
   have hstep:=step i ds[i] δ' S' (by simp) iv
   rw [← c.xc.ok.K]
   refine a6Q (I:=fun _=>True) (fun _ _ _ _ _=>trivial) hstep r2 (R'.mono P2 c2) trivial fun δ3 σ3 hq R3 _=>?_
   have P12:=P'.trans P2
   have nx:∀ δ4 S4 σ4 H4,Iv (i + 1) δ4 S4→a0d S' H2 S4 H4→Rel G.toGd S4 H4 δ4 σ4→i + 1≤ds.length∧∃ δ' S',Iv (i + 1) δ' S'∧a0d S1 H1 S' H4∧Rel G.toGd S' H4 δ' σ4:=fun δ4 S4 σ4 H4 q P4 R4=>⟨hlt,δ4,S4,q,P12.trans P4,R4⟩
   exact ⟨δ3,S',Y,_,R3,hq,⟨nx,(rs.rt.mono P1).mono P12,fun δ4 S4 σ4 H4 q P4 R4=>rs.nx δ4 S4 σ4 H4 q (P1.trans (P12.trans P4)) R4,nx⟩,(rw'.mono P1).mono P12⟩
  ·have e:i=ds.length:=by omega
   subst e
   exact .inl ⟨io.st _ S' H' (Nat.le_refl _) P' R'.ce ok',rs.nx δ' S' σ' H' (last δ' S' iv) (P1.trans P') R'⟩
 ·refine LS.mk' ps_never fun D σ H δ S Y F R ht rs rw'=>?_
  rw [a0l] at ht
  exact (hm ht.1).elim
theorem b5t {j:Nat} {tg:List Nat} {y:Str} {p1 p2:Pos} {kk:Nat} {t2:Expr} (c:XC n X G.toGm W k sc) (calm:X.calm=true) (h2:nmB n.N j y=true) (h3:a7T sc y=true) (h4:a0U n sc tg false t2=true):PG X (.Tuple [.Name y p1,t2] kk p2) (gTup X.K 2 (gCons (gName j) (gCons (gTg X.K tg false) gNil))):=by
 have ht:∃ xs kk p,t2=.Tuple xs kk p:=by
  unfold a0U at h4
  rw [if_neg zbe] at h4
  split at h4
  ·exact ⟨_,_,_,rfl⟩
  ·cases h4
 have hp:=a9b c (fun _=>calm) h4
 obtain ⟨xs,k3,p3,rfl⟩:=ht
 exact pg_tup calm (pgs_cons (pg_name c.nd (c.at h2) (c.loc h3) (c.sto h3)) (pgs_cons hp pgs_nil))
theorem b4J {g:Gd} {S:SS} {H:Hp} {j:Nat} {tg:List Nat} {d:D} {v:V} {δ:DS} {σ:L2.St} {K:DS→SS→Prop} {Q:L2.St→Hp→Prop} (hd:b4c j tg d δ S K) (r:Rep g S H d v) (R:Rel g S H δ σ)
  (h:∀ δ' σ',K δ' S→Rel g S H δ' σ'→Q σ' H):gTup g.K 2 (gCons (gName j) (gCons (gTg g.K tg false) gNil)) v σ H Q:=by
 obtain ⟨x,y,ds,e,e2,l,hk⟩:=hd
 obtain ⟨p,vs,rfl,hl,hr⟩:=a0C r e
 simp only [a0e] at hr
 obtain ⟨v1,q1,rfl,a1,v2,q2,rfl,a2,rfl⟩:=hr
 refine ⟨p,_,rfl,hl,rfl,v1,_,rfl,v2,_,rfl,?_⟩
 refine a6Q (I:=fun _=>True) (fun _ _ _ _ _=>trivial) (δ:=δ.set j (some x)) (K:=K) ?_ a2 ⟨R.sl.set a1,R.ce⟩ trivial fun δ' σ' hk R' _=>⟨rfl,h δ' σ' hk R'⟩
 unfold a1w
 rw [if_neg zbe]
 exact ⟨ds,e2,l,hk⟩
theorem b5U {j:Nat} {tg:List Nat} {it:RI} {b:RSs} {y:Str} {p1 p2:Pos} {kk:Nat} {t2 i:Expr} {p:List Stmt} (c:XS n X G W k sc) (h1:a1R i=true) (h2:nmB n.N j y=true) (h3:a7T sc y=true) (h4:a0U n sc tg false t2=true) (hI:b3A n sc it i) (hb:PSs X p (LS G.toGd W (a0c G b))):PS X (.For (.Tuple [.Name y p1,t2] kk p2) i p [] pos) (LS G.toGd W (a0l G (.frn j tg it b))):=by
 by_cases hm:G.m0=none
 ·have md:a02 X none:=by have:=c.xc.md;rw [hm] at this;exact this
  have calm:X.calm=true:=md.2
  refine LS.mk' (ps_for c.xc.ps calm (hI X G.toGm W k (.Tuple [.Name y p1,t2] kk p2) c.xc hm (fun _=>⟨_,_,_,rfl⟩)) (b5t c.xc calm h2 h3 h4) hb (fun x=>a3e h1 x)) fun D σ H δ S Y F R ht rs rw'=>?_
  rw [a0l] at ht
  refine ⟨δ,S,Y,_,R,ht.2,fun ds ok S1 H1 J hk P1 c1 io=>?_,rw'⟩
  obtain ⟨Iv,i0,hok,step,last⟩:=hk
  refine ⟨fun i m σ' H'=>m=ds.length - i∧i≤ds.length∧∃ δ' S',Iv i δ' S'∧a0d S1 H1 S' H'∧Rel G.toGd S' H' δ' σ',⟨_,rfl,Nat.zero_le _,δ,S1,i0,a0d.refl _ _,R.mono P1 c1⟩,?_⟩
  rintro i m σ' H' ⟨rfl,hi,δ',S',iv,P',R'⟩
  have ok':=hok i δ' S' iv hi
  by_cases hlt:i < ds.length
  ·refine .inr ⟨io.go i S' H' hlt P' R'.ce ok',fun σ2 H2=>i + 1≤ds.length∧∃ δ' S',Iv (i + 1) δ' S'∧a0d S1 H1 S' H2∧Rel G.toGd S' H2 δ' σ2,fun σ2 H2 q=>⟨_,by omega,rfl,q⟩,fun x H2 y=>?_⟩
   obtain ⟨P2,c2,r2⟩:=io.yl i S' H' x H2 ds[i] (by simp) P' R'.ce ok' y
   have hstep:=step i ds[i] δ' S' (by simp) iv
   rw [← c.xc.ok.K]
   refine b4J hstep r2 (R'.mono P2 c2) fun δ3 σ3 hq R3=>?_
   have P12:=P'.trans P2
   have nx:∀ δ4 S4 σ4 H4,Iv (i + 1) δ4 S4→a0d S' H2 S4 H4→Rel G.toGd S4 H4 δ4 σ4→i + 1≤ds.length∧∃ δ' S',Iv (i + 1) δ' S'∧a0d S1 H1 S' H4∧Rel G.toGd S' H4 δ' σ4:=fun δ4 S4 σ4 H4 q P4 R4=>⟨hlt,δ4,S4,q,P12.trans P4,R4⟩
   exact ⟨δ3,S',Y,_,R3,hq,⟨nx,(rs.rt.mono P1).mono P12,fun δ4 S4 σ4 H4 q P4 R4=>rs.nx δ4 S4 σ4 H4 q (P1.trans (P12.trans P4)) R4,nx⟩,(rw'.mono P1).mono P12⟩
  ·have e:i=ds.length:=by omega
   subst e
   exact .inl ⟨io.st _ S' H' (Nat.le_refl _) P' R'.ce ok',rs.nx δ' S' σ' H' (last δ' S' iv) (P1.trans P') R'⟩
 ·refine LS.mk' ps_never fun D σ H δ S Y F R ht rs rw'=>?_
  rw [a0l] at ht
  exact (hm ht.1).elim
theorem b50 {e:RE} {v:Expr} (he:PE X v (LE G.toGd W (den G.toGm e))):PS X (.Return (some v) pos) (LS G.toGd W (a0l G (.ret e))) :=
 LS.mk' (ps_ret he) fun D σ H δ S Y F R ht rs rw'=>by
  rw [a0l] at ht
  exact ⟨δ,S,Y,_,R,ht,rs.rt,rw'⟩
theorem b5Z {j:Nat} {es:RL} {y:Str} {xs:List Expr} {p1 p2:Pos} (c:XS n X G W k sc) (h1:nmB n.cls j y=true) (h2:glB sc y=true) (hL:a7S n sc es xs):PS X (.Raise (some (.Call (.Name y p1) xs [] p2)) none pos) (LS G.toGd W (a0l G (.rai j es))):=by
 by_cases hm:G.m0=none
 ·have md:a02 X none:=by have:=c.xc.md;rw [hm] at this;exact this
  have calm:X.calm=true:=md.2
  cases hx:G.xk j with
  | none =>
   refine LS.mk' ps_never fun D σ H δ S Y F R ht rs rw'=>?_
   rw [a0l] at ht
   obtain ⟨_,kd,e,_⟩:=ht
   rw [hx] at e;cases e
  | some kd =>
   have M:=c.xm j y kd hx (a0E h1).1
   have hcl:=c.xc.ok.cl j y (a0E h1).1
   have hs:=hL.st
   have ha:=hL.a X G.toGm W k c.xc
   have ar:∀ {δ S Y F},a0l G (.rai j es) δ S Y F→es.len=kd.ar:=fun {δ S Y F} q=>by
    rw [a0l] at q
    obtain ⟨_,kd',e,q,_⟩:=q
    rw [hx] at e;cases e
    exact q
   have un:∀ {δ S Y F},a0l G (.rai j es) δ S Y F→a0p G.toGm es δ S Y fun ds S1=>∃ fs,mkX kd ds=some fs∧Y (G.cl j) fs δ S1:=fun {δ S Y F} q=>by
    rw [a0l] at q
    obtain ⟨_,kd',e,_,q⟩:=q
    rw [hx] at e;cases e
    exact q
   cases M with
   | @fld f fI fd ps kI T iC tI Fn b hk =>
    cases xs with
    | nil =>
     refine LS.mk' ps_never fun D σ H δ S Y F R ht rs rw'=>?_
     have q:=un ht
     rw [hL.nl rfl,a0p] at q
     obtain ⟨fs,e,_⟩:=q
     cases e
    | cons z zs =>
     rw [List.all_cons,zak] at hs
     refine LS.mk' (L2N.ps_raise calm c.xc.tk (b2J T iC tI Fn ⟨by have:=c.xc.rm.dp;omega,by have:=c.xc.rm.un;omega⟩ md b (c.xc.gl h2) hcl ha (a0E h1).2.1 (a0g hs.1) (a0T hs.2))) fun D σ H δ S Y F R ht rs rw'=>?_
     refine ⟨δ,S,Y,_,R,un ht,fun ds S1 vs H1 kk P cc r=>?_,rw'⟩
     obtain ⟨fs,e,q⟩:=kk
     match ds,e,r with
     | [d],e,r =>
      cases e
      obtain ⟨v,rfl,rv⟩:=a4K r
      refine ⟨v,rfl,fun dx hd=>?_⟩
      have P2:a0d S1 H1 S1 (upd H1 dx (.xd [(f,v)])):=a0d.new hd
      refine rw' _ _ _ _ _ _ _ q (P.trans P2) (R.mono (P.trans P2) (cc.new hd)) (.inr ⟨dx,_,rfl,cc.free hd,upd_same,?_⟩)
      simp only [a1Q]
      exact ⟨v,[],rfl,rv.mono P2,rfl⟩
   | bare Fb q0 kC e1 e2 =>
    cases xs with
    | nil =>
     refine LS.mk' (L2N.ps_raise calm c.xc.tk (b0u Fb q0 kC (raises_own e1 e2) (c.xc.gl h2) hcl (a0E h1).2.1)) fun D σ H δ S Y F R ht rs rw'=>?_
     have q:=un ht
     rw [hL.nl rfl,a0p] at q
     obtain ⟨fs,e,q⟩:=q
     cases e
     exact rw' _ _ _ _ _ _ _ q (a0d.refl _ _) R (.inl ⟨rfl,rfl⟩)
    | cons z zs =>
     refine LS.mk' (ps_never) fun D σ H δ S Y F R ht rs rw'=>?_
     have e1:=ar ht
     have e2:=hL.ne
     rw [e1] at e2
     cases e2
 ·refine LS.mk' ps_never fun D σ H δ S Y F R ht rs rw'=>?_
  rw [a0l] at ht
  exact (hm ht.1).elim
theorem b5R {i:Nat} {cell:Bool} {elt:RE} {cnd:RO} {tg:List Nat} {one:Bool} {it:RI} {own:List (Str × Nat)} {xe xt xi:Expr} {ifs:List Expr} {scope:Scope} {y:Str} {py p:Pos} (c:XS n X G W k sc) (h0:nmB n.N i y=true) (hl:sc.names.lookup y=some .local)
  (hp:(py.line == p.line)=true) (hna:(scope.names.any fun (m,k)=>m == y && (k == .local || k == .cell))=false) (hb:blkC n.N sc scope own=true) (hsd:a1R xi=true) (hI:b3A n sc it xi)
  (htg:(tg.all fun i=>decide (i∈own.map (·.2)))=true) (hct:a0U n scope tg one xt=true) (h7:(!it.two || !one)=true) (hcnd:∀ X G W k,XC n X G W k scope→PTs X ifs (LT G.toGd W (a5R G cnd))) (he:∀ X G W k,XC n X G W k scope→PE X xe (LE G.toGd W (den G elt))) :
  PS X (.Assign [.Name y py] (.ListComp xe [⟨xt,xi,ifs,0⟩] scope p) pos) (LS G.toGd W (a0l G (.asl i (.lc cell elt tg one it cnd own)))):=by
 by_cases hm:G.m0=none
 ·have md:a02 X none:=by have:=c.xc.md;rw [hm] at this;exact this
  have calm:X.calm=true:=md.2
  have hyl:X.env.scope.names.lookup y=some .local:=by rw [c.esc];exact hl
  have bo:BlkOk X.N X.env.scope scope own:=by
   have h:=blkOk_by hb
   exact ⟨h.kind,h.uniq,fun p hp=>c.xc.N ▸ h.ix p hp,fun y hy e=>c.xc.sc.fr _ (h.free y hy e),fun y hy e=>c.xc.N ▸ h.own y hy e⟩
  have kf:X.env.scope.kind=.function∨True:=.inr trivial
  refine ⟨fun pins s σ H D I hh=>?_⟩
  have kfun:=I.ok.kind
  refine (LS.mk' (ps_setLc (wi:=LI G.toGd W (a0P G.toGm it)) (g:=gTg X.K tg one) (tt:=LT G.toGd noW (a5R G.toGm cnd)) (te:=LE G.toGd noW (den G.toGm elt)) calm c.xc.nd (c.xc.at h0) hyl (sw_true kfun hyl hp hna) (hI X G.toGm W k xt c.xc hm (a9B hct h7)) bo (fun s H C cl fp=>a9b (c.xc.blk hm) (fun _=>calm) hct) (fun s H C cl fp=>hcnd _ G.toGm noW k (c.xc.blk hm)) (fun s H C cl fp=>he _ G.toGm noW k (c.xc.blk hm)) (fun x=>a3e hsd x)) fun D σ H δ S Y F R ht rs rw'=>?_).run pins s σ H D I hh
  rw [a0l] at ht
  have h:LE G.toGd W (den G.toGm (.lc cell elt tg one it cnd own)) σ H (fun v H1=>D.nx (σ.set i (some v)) H1):=⟨δ,S,Y,_,R,ht,fun d S1 v H1 q P cc r=>rs.nx _ S1 _ H1 q P ⟨(R.sl.mono P).set r,cc⟩,rw'⟩
  exact b4Z c.xc.ok.K htg h
 ·refine LS.mk' ps_never fun D σ H δ S Y F R ht rs rw'=>?_
  rw [a0l,den] at ht
  exact (hm ht.1).elim
theorem b53 {b s:RSs} {j i:Nat} {y m:Str} {p1 p2:Pos} {p qs:List Stmt} {q:Stmt} (c:XS n X G W k sc) (h1:nmB n.cls j y=true) (h2:glB sc y=true) (h3:nmB n.N i m=true) (hl:sc.names.lookup m=some .local) (hb:a73 n sc b p) (hs:a73 n sc s (q :: qs)) :
  PS X (.Try p [.ExceptHandler (some (.Name y p1)) (some m) (q :: qs) p2] [] [] pos) (LS G.toGd W (a0l G (.tra b j i s))):=by
 by_cases hm:G.m0=none
 ·have hcl:=c.xc.ok.cl j y (a0E h1).1
  have hln:X.env.kindOf m=some .local:=by show X.env.scope.names.lookup m=_;rw [c.esc];exact hl
  refine LS.mk' (L2N.ps_try_as (tb:=fun W'=>LS G.toGd W' (a0c G b)) (ts:=fun a cls d=>fun D σ H=>∀ oe,L2N.Zn cls d oe→(∃ vs,oe.data=.fields vs)→LS G.toGd noW (a0c (G.suite a oe) s) D σ H) c.stk c.fr c.xc.nd (c.xc.at h3) hln ⟨c.xc.gl h2,(a0E h1).2.1,.inl hcl⟩ c.xc.tk
   (fun W' pn xe tk ps=>hb _ G W' k (c.tr hm tk ps))
   (fun a oe cls d pn hz hf=>PSs.imp (hs _ (G.suite a oe) noW k (c.suite hz hf)) fun D σ H q=>q oe hz hf)) fun D σ H δ S Y F R ht rs rw'=>?_
  rw [a0l] at ht
  refine ⟨δ,S,_,F,R,ht.2,rs,fun C fs δ' S' d σ' H' hy P R' hx=>?_⟩
  obtain ⟨kb,e1,e2,e3⟩:=hy
  refine ⟨kb,by rw [← c.xc.ok.K];exact e1,fun hk a na oe hz hf=>?_,fun hk=>rw' C fs δ' S' d σ' H' (e3 hk) P R' hx⟩
  have R2:Rel G.toGd S' H' (δ'.set i (some (.exc a oe C fs))) (σ'.set i (some (.ref a))):=⟨R'.sl.set (by
   simp only [Rep]
   exact ⟨d,trivial,⟨hz.zc,hf⟩,hx⟩),R'.ce⟩
  refine ⟨_,S',noX,_,R2,e2 hk a oe,?_,fun _ _ _ _ _ _ _ z=>z.elim⟩
  exact ⟨fun δ2 S2 σ2 H2 q P2 R3=>rs.nx _ S2 _ H2 q (P.trans P2) ⟨R3.sl.setN,R3.ce⟩,rs.rt.mono P,fun δ2 S2 σ2 H2 q P2 R3=>rs.bk _ S2 _ H2 q (P.trans P2) ⟨R3.sl.setN,R3.ce⟩,fun δ2 S2 σ2 H2 q P2 R3=>rs.ct _ S2 _ H2 q (P.trans P2) ⟨R3.sl.setN,R3.ce⟩⟩
 ·refine LS.mk' ps_never fun D σ H δ S Y F R ht rs rw'=>?_
  rw [a0l] at ht
  exact (hm ht.1).elim
theorem b55 {b s:RSs} {j:Nat} {y:Str} {p1 p2:Pos} {p qs:List Stmt} {q:Stmt} (c:XS n X G W k sc) (h1:nmB n.cls j y=true) (h2:glB sc y=true) (hb:a73 n sc b p) (hs:a73 n sc s (q :: qs)) :
  PS X (.Try p [.ExceptHandler (some (.Name y p1)) none (q :: qs) p2] [] [] pos) (LS G.toGd W (a0l G (.tro b j s))):=by
 by_cases hm:G.m0=none
 ·have hcl:=c.xc.ok.cl j y (a0E h1).1
  refine LS.mk' (L2N.ps_try_many (tb:=fun W'=>LS G.toGd W' (a0c G b)) (l:=[(.ref (G.cl j),fun a cls d=>fun D σ H=>∀ oe,L2N.Zn cls d oe→(∃ vs,oe.data=.fields vs)→LS G.toGd noW (a0c (G.suite a oe) s) D σ H)]) c.stk c.fr c.xc.tk
   (fun W' pn xe tk ps=>hb _ G W' k (c.tr hm tk ps))
   (.cons ⟨c.xc.gl h2,(a0E h1).2.1,.inl hcl⟩ (fun a oe cls d pn hz hf=>PSs.imp (hs _ (G.suite a oe) noW k (c.suite hz hf)) fun D σ H q=>q oe hz hf) .nil)) fun D σ H δ S Y F R ht rs rw'=>?_
  rw [a0l] at ht
  refine ⟨δ,S,_,F,R,ht.2,rs,fun C fs δ' S' d σ' H' hy P R' hx=>?_⟩
  obtain ⟨kb,e1,e2,e3⟩:=hy
  refine ⟨kb,by rw [← c.xc.ok.K];exact e1,fun hk a na oe hz hf=>?_,fun hk=>rw' C fs δ' S' d σ' H' (e3 hk) P R' hx⟩
  refine ⟨δ',S',noX,F,R',e2 hk a oe,?_,fun _ _ _ _ _ _ _ z=>z.elim⟩
  exact ⟨fun δ2 S2 σ2 H2 q P2 R3=>rs.nx _ S2 _ H2 q (P.trans P2) R3,rs.rt.mono P,fun δ2 S2 σ2 H2 q P2 R3=>rs.bk _ S2 _ H2 q (P.trans P2) R3,fun δ2 S2 σ2 H2 q P2 R3=>rs.ct _ S2 _ H2 q (P.trans P2) R3⟩
 ·refine LS.mk' ps_never fun D σ H δ S Y F R ht rs rw'=>?_
  rw [a0l] at ht
  exact (hm ht.1).elim
theorem a6I {a b:Expr} (sa:a0t a=true) (sb:a0t b=true):([a,b].any fun | .Starred ..=>true | _=>false)=false:=by
 cases a <;> first | exact absurd sa zbe | (cases b <;> first | exact absurd sb zbe | rfl)
theorem a7P {y z:Str} {a b:Expr} {py pz pt p2:Pos} {kt k2:Nat} (kind:X.env.blockKind=.function) (ky:X.env.kindOf y=some .local) (kz:X.env.kindOf z=some .local) (same:(py.line == pz.line)=true) (apart:(y == z)=false) (sa:a0t a=true) (sb:a0t b=true)
  (f1:([a,b].all (foldedForSure 8))=false) (f2:([a,b].all (constantsAlone 8))=false):swappedStores [.Tuple [.Name y py,.Name z pz] kt pt] (.Tuple [a,b] k2 p2) X.env=pure (some [y,z]):=by
 have line:(pz.line == py.line)=true:=by rw [beq_iff_eq] at same ⊢;exact same.symm
 have dup:[y,z].eraseDups=[y,z]:=by
  rw [List.eraseDups_cons,List.filter_cons]
  have e:(z == y)=false:=by
   rw [beq_eq_false_iff_ne] at apart ⊢
   exact fun h=>apart h.symm
  simp [e,List.eraseDups_cons]
 unfold swappedStores
 simp only [zaz,List.length_nil,kind,f1,f2,List.head?_cons,Option.map_some,Option.getD_some,Expr.pos,List.filterMap_cons,List.filterMap_nil,ky,kz,line,beq_self_eq_true,Bool.and_self,if_true,dup]
 refine (if_neg (by decide)).trans ((if_neg fun h=>zbe ((a6I sa sb).symm.trans h)).trans ?_)
 rfl
theorem b5Y {i j:Nat} {es:RL} {y z:Str} {a b:Expr} {py pz pt p2:Pos} {kt k2:Nat} (c:XS n X G W k sc) (h1:nmB n.N i y=true) (h2:nmB n.N j z=true) (hij:i≠j) (hy:sc.names.lookup y=some .local) (hz:sc.names.lookup z=some .local) (same:(py.line == pz.line)=true) (apart:(y == z)=false) (sa:a0t a=true) (sb:a0t b=true)
  (f1:([a,b].all (foldedForSure 8))=false) (f2:([a,b].all (constantsAlone 8))=false) (hL:a7S n sc es [a,b]):PS X (.Assign [.Tuple [.Name y py,.Name z pz] kt pt] (.Tuple [a,b] k2 p2) pos) (LS G.toGd W (a0l G (.par i j es))):=by
 by_cases hm:G.m0=none
 ·have md:a02 X none:=by have:=c.xc.md;rw [hm] at this;exact this
  have ly:X.env.scope.names.lookup y=some .local:=by rw [c.esc];exact hy
  have lz:X.env.scope.names.lookup z=some .local:=by rw [c.esc];exact hz
  refine ⟨fun pins s σ H D I hh=>?_⟩
  have kind:X.env.blockKind=.function:=by unfold Env.blockKind;rw [I.ok.kind];rfl
  refine (LS.mk' (ps_par (pos:=pos) md.2 c.xc.nd (c.xc.at h1) (c.xc.at h2) hij ly lz (hL.a X G.toGm W k c.xc) (a7P kind ly lz same apart sa sb f1 f2) (by rfl)) fun D σ H δ S Y F R ht rs rw'=>?_).run pins s σ H D I hh
  rw [a0l] at ht
  refine ⟨δ,S,Y,_,R,ht.2,fun ds S1 vs H1 kk P cc r=>?_,rw'⟩
  obtain ⟨v,w,rfl,q⟩:=kk
  obtain ⟨a1,b1,rfl,r1,r2⟩:=a0X r
  exact ⟨a1,b1,rfl,rs.nx _ S1 _ H1 q P ⟨((R.sl.mono P).set r1).set r2,cc⟩⟩
 ·refine LS.mk' ps_never fun D σ H δ S Y F R ht rs rw'=>?_
  rw [a0l] at ht
  exact (hm ht.1).elim
theorem a8d {a b c:Expr} (sa:a0t a=true) (sb:a0t b=true) (sc:a0t c=true):([a,b,c].any fun | .Starred ..=>true | _=>false)=false:=by
 cases a <;> first | exact absurd sa zbe | exact a6I sb sc
theorem a7L {d e f:D} {vs:List V} (r:a0e g S H [d,e,f] vs):∃ u v w,vs=[u,v,w]∧Rep g S H d u∧Rep g S H e v∧Rep g S H f w:=by
 simp only [a0e] at r
 obtain ⟨v,q,rfl,a,u,q2,rfl,b,w,q3,rfl,c,rfl⟩:=r
 exact ⟨v,u,w,rfl,a,b,c⟩
theorem a5I {x y z:Str} {a b c:Expr} {px py pz pt p2:Pos} {kt k2:Nat} (kind:X.env.blockKind=.function) (kx:X.env.kindOf x=some .local) (ky:X.env.kindOf y=some .local) (kz:X.env.kindOf z=some .local) (same:(px.line == py.line)=true) (same2:(px.line == pz.line)=true) (dup:[x,y,z].eraseDups=[x,y,z]) (sa:a0t a=true) (sb:a0t b=true) (sc:a0t c=true)
  (f1:([a,b,c].all (foldedForSure 8))=false) (f2:([a,b,c].all (constantsAlone 8))=false):swappedStores [.Tuple [.Name x px,.Name y py,.Name z pz] kt pt] (.Tuple [a,b,c] k2 p2) X.env=pure (some [x,y,z]):=by
 have line:(py.line == px.line)=true:=by rw [beq_iff_eq] at same ⊢;exact same.symm
 have line2:(pz.line == px.line)=true:=by rw [beq_iff_eq] at same2 ⊢;exact same2.symm
 unfold swappedStores
 simp only [zaz,List.length_nil,kind,f1,f2,List.head?_cons,Option.map_some,Option.getD_some,Expr.pos,List.filterMap_cons,List.filterMap_nil,kx,ky,kz,line,line2,beq_self_eq_true,Bool.and_self,if_true,dup]
 refine (if_neg (by decide)).trans ((if_neg fun h=>zbe ((a8d sa sb sc).symm.trans h)).trans ?_)
 rfl
theorem b54 {i j l:Nat} {es:RL} {x y z:Str} {a b d:Expr} {px py pz pt p2:Pos} {kt k2:Nat} (c:XS n X G W k sc) (h1:nmB n.N i x=true) (h2:nmB n.N j y=true) (h3:nmB n.N l z=true) (hij:i≠j) (hil:i≠l) (hjl:j≠l) (hx:sc.names.lookup x=some .local) (hy:sc.names.lookup y=some .local) (hz:sc.names.lookup z=some .local) (same:(px.line == py.line)=true) (same2:(px.line == pz.line)=true) (dup:[x,y,z].eraseDups=[x,y,z]) (sa:a0t a=true) (sb:a0t b=true) (sd:a0t d=true)
  (f1:([a,b,d].all (foldedForSure 8))=false) (f2:([a,b,d].all (constantsAlone 8))=false) (hL:a7S n sc es [a,b,d]):PS X (.Assign [.Tuple [.Name x px,.Name y py,.Name z pz] kt pt] (.Tuple [a,b,d] k2 p2) pos) (LS G.toGd W (a0l G (.tri i j l es))):=by
 by_cases hm:G.m0=none
 ·have md:a02 X none:=by have:=c.xc.md;rw [hm] at this;exact this
  have lx:X.env.scope.names.lookup x=some .local:=by rw [c.esc];exact hx
  have ly:X.env.scope.names.lookup y=some .local:=by rw [c.esc];exact hy
  have lz:X.env.scope.names.lookup z=some .local:=by rw [c.esc];exact hz
  refine ⟨fun pins s σ H D I hh=>?_⟩
  have kind:X.env.blockKind=.function:=by unfold Env.blockKind;rw [I.ok.kind];rfl
  refine (LS.mk' (ps_par3 (pos:=pos) md.2 c.xc.nd (c.xc.at h1) (c.xc.at h2) (c.xc.at h3) hij hil hjl lx ly lz (hL.a X G.toGm W k c.xc) (a5I kind lx ly lz same same2 dup sa sb sd f1 f2) (by rfl)) fun D σ H δ S Y F R ht rs rw'=>?_).run pins s σ H D I hh
  rw [a0l] at ht
  refine ⟨δ,S,Y,_,R,ht.2,fun ds S1 vs H1 kk P cc r=>?_,rw'⟩
  obtain ⟨u,v,w,rfl,q⟩:=kk
  obtain ⟨a1,b1,c1,rfl,r1,r2,r3⟩:=a7L r
  exact ⟨a1,b1,c1,rfl,rs.nx _ S1 _ H1 q P ⟨(((R.sl.mono P).set r1).set r2).set r3,cc⟩⟩
 ·refine LS.mk' ps_never fun D σ H δ S Y F R ht rs rw'=>?_
  rw [a0l] at ht
  exact (hm ht.1).elim
theorem b5W {s:RS} {x:Stmt} (h:PS X x (LS G.toGd W (a0l G s))):PS X x (LS G.toGd W (a0l G (.lck s))) :=
 LS.mk' (ps_lock h) fun D σ H δ S Y F R ht rs rw'=>by
  rw [a0l] at ht
  obtain ⟨d,kvs,at_d,ht⟩:=ht
  obtain ⟨ws,here,all⟩:=R.ce d _ at_d
  refine ⟨d,_,here,trivial,fun od=>?_⟩
  have P:a0d S H (S.set d (.loc kvs)) (upd H d (.frz od (.dK ws))):=a0d.write at_d
  have back:∀ {δ':DS} {S' σ' H'},a0d (S.set d (.loc kvs)) (upd H d (.frz od (.dK ws))) S' H'→Rel G.toGd S' H' δ' σ'→Rel G.toGd (S'.set d (.dic kvs)) (upd H' d (.dK ws)) δ' σ':=fun {δ' S' σ' H'} P' R' =>
   ⟨⟨R'.sl.len,fun i x e=>have ⟨v,e1,r⟩:=R'.sl.at_ i x e;⟨v,e1,r.monoW (.write (PostW.unlock at_d P').1)⟩⟩,CellsOk.unlock at_d all P' R'.ce⟩
  have go:∀ {δ':DS} {S' σ' H'} {K:DS→SS→Prop} {q:L2.St→Hp→Prop},(∀ δ' S' σ' H',K δ' S'→a0d S H S' H'→Rel G.toGd S' H' δ' σ'→q σ' H')→K δ' (S'.set d (.dic kvs))→a0d (S.set d (.loc kvs)) (upd H d (.frz od (.dK ws))) S' H'→Rel G.toGd S' H' δ' σ' →
    H' d=some (.frz od (.dK ws))∧q σ' (upd H' d (.dK ws)):=fun {δ' S' σ' H' K q} w kk P' R'=>⟨(PostW.unlock at_d P').2,w δ' _ σ' _ kk (a0d.unlock at_d P') (back P' R')⟩
  refine ⟨δ,_,Y,F.unlock d kvs,R.mono P (R.ce.lock at_d here all),ht,⟨fun δ' S' σ' H' kk P' R'=>go rs.nx kk P' R',fun x S' v H' kk P' c' r'=>⟨(PostW.unlock at_d P').2,?_⟩,fun δ' S' σ' H' kk P' R'=>go rs.bk kk P' R',fun δ' S' σ' H' kk P' R'=>go rs.ct kk P' R'⟩,rw'.mono P⟩
  exact rs.rt x _ v _ kk (a0d.unlock at_d P') (CellsOk.unlock at_d all P' c') (r'.monoW (.write (PostW.unlock at_d P').1))
end
end Sv
namespace Sv
open PySem PySem.Spec PyProof.Rows L2
open L2H (RoomH)
variable {n:SN}
mutual
theorem sS:∀ (s:RS) (sc:Scope) (x:Stmt),a2I n sc s x=true→c1G n sc s x
 | .exp e,sc,x,h=>by
  unfold a2I at h
  split at h
  ·rw [zak] at h
   exact fun X G W k c=>b5T h.1 ((sE e sc _ h.2).v X G.toGm W k c.xc)
  ·cases h
 | .asg tg one e,sc,x,h=>by
  unfold a2I at h
  split at h
  ·simp only [zak] at h
   obtain ⟨⟨h1,h2⟩,h3,h4⟩:=h
   exact fun X G W k c=>b5Q c h1 h2 h3 ((sE e sc _ h4).v X G.toGm W k c.xc)
  ·cases h
 | .asu tg e,sc,x,h=>by
  unfold a2I at h
  split at h
  ·simp only [zak] at h
   obtain ⟨⟨h1,h2⟩,h3,h4⟩:=h
   exact fun X G W k c=>b5S c h1 h2 h3 ((sE e sc _ h4).v X G.toGm W k c.xc)
  ·cases h
 | .asl i e,sc,x,h=>by
  unfold a2I at h
  split at h
  ·split at h
   ·simp only [zak,zah,Bool.not_eq_true'] at h
    obtain ⟨⟨⟨⟨h1,h2⟩,h3⟩,h4⟩,⟨⟨⟨⟨⟨⟨g0,g1⟩,g2⟩,g3⟩,g4⟩,g5⟩,g6⟩,g7⟩:=h
    exact fun X G W k c=>b5R c h1 h2 h3 h4 g0 g1 (sI _ sc _ g2) g3 g4 g7 (fun X G W k c=>sC _ _ _ g5 X G W k c) (fun X G W k c=>(sE _ _ _ g6).v X G W k c)
   ·cases h
  ·cases h
 | .sti a b e,sc,x,h=>by
  unfold a2I at h
  split at h
  ·simp only [zak] at h
   obtain ⟨h2,h3,h4,h5⟩:=h
   exact fun X G W k c=>b52 c h2 ((sE a sc _ h3).v X G.toGm W k c.xc) ((sE b sc _ h4).v X G.toGm W k c.xc) ((sE e sc _ h5).v X G.toGm W k c.xc)
  ·cases h
 | .stf a f e,sc,x,h=>by
  unfold a2I at h
  split at h
  ·simp only [zak,zah] at h
   obtain ⟨h2,h3,h4⟩:=h
   subst h2
   exact fun X G W k c=>b51 c ((sE a sc _ h3).v X G.toGm W k c.xc) ((sE e sc _ h4).v X G.toGm W k c.xc)
  ·cases h
 | .agv i op e,sc,x,h=>by
  unfold a2I at h
  split at h
  ·simp only [zak,zah] at h
   obtain ⟨⟨⟨h1,h2⟩,h3⟩,h4⟩:=h
   subst h3
   exact fun X G W k c=>b5P c h1 h2 ((sE e sc _ h4).v X G.toGm W k c.xc)
  ·cases h
 | .agi a b op e,sc,x,h=>by
  unfold a2I at h
  split at h
  ·simp only [zak,zah] at h
   obtain ⟨⟨h1,h2⟩,h3,h4,h5⟩:=h
   subst h2
   exact fun X G W k c=>b5O c h1 ((sE a sc _ h3).v X G.toGm W k c.xc) ((sE b sc _ h4).v X G.toGm W k c.xc) ((sE e sc _ h5).v X G.toGm W k c.xc)
  ·cases h
 | .ifs t a b,sc,x,h=>by
  unfold a2I at h
  split at h
  ·simp only [zak] at h
   obtain ⟨h1,h2,h3⟩:=h
   exact fun X G W k c=>b5V ((sE t sc _ h1).t X G.toGm W k c.xc) (sSs a sc _ h2 X G W k c) (sSs b sc _ h3 X G W k c)
  ·cases h
 | .fr tg one it b,sc,x,h=>by
  unfold a2I at h
  split at h
  ·simp only [zak] at h
   obtain ⟨⟨⟨h1,h2⟩,h5⟩,h3,h4⟩:=h
   exact fun X G W k c=>c0I c h1 h2 h5 (sI it sc _ h3) (sSs b sc _ h4 X G W k c)
  ·cases h
 | .frn j tg it b,sc,x,h=>by
  unfold a2I at h
  split at h
  ·simp only [zak] at h
   obtain ⟨⟨⟨h1,h2,h3⟩,h5⟩,h6,h7⟩:=h
   exact fun X G W k c=>b5U c h1 h2 h3 h5 (sI it sc _ h6) (sSs b sc _ h7 X G W k c)
  ·cases h
 | .wh t b,sc,x,h=>by
  unfold a2I at h
  split at h
  ·simp only [zak] at h
   obtain ⟨h1,h2⟩:=h
   exact fun X G W k c=>c0J c ((sE t sc _ h1).t X G.toGm W k c.xc) (sSs b sc _ h2 X G W k c)
  ·cases h
 | .ret e,sc,x,h=>by
  unfold a2I at h
  split at h
  ·exact fun X G W k c=>b50 ((sE e sc _ h).v X G.toGm W k c.xc)
  ·cases h
 | .retN,sc,x,h=>by
  unfold a2I at h
  split at h
  ·exact fun X G W k c=>LS.mk' ps_retN fun D σ H δ S Y F R ht rs rw'=>by
    rw [a0l] at ht
    exact rs.rt.non ht R.ce
  ·cases h
 | .brk,sc,x,h=>by
  unfold a2I at h
  split at h
  ·exact fun X G W k c=>LS.mk' ps_break fun D σ H δ S Y F R ht rs rw'=>by
    rw [a0l] at ht
    exact rs.bk δ S σ H ht (a0d.refl _ _) R
  ·cases h
 | .cnt,sc,x,h=>by
  unfold a2I at h
  split at h
  ·exact fun X G W k c=>LS.mk' ps_continue fun D σ H δ S Y F R ht rs rw'=>by
    rw [a0l] at ht
    exact rs.ct δ S σ H ht (a0d.refl _ _) R
  ·cases h
 | .pas,sc,x,h=>by
  unfold a2I at h
  split at h
  ·exact fun X G W k c=>LS.mk' ps_pass fun D σ H δ S Y F R ht rs rw'=>by
    rw [a0l] at ht
    exact rs.nx δ S σ H ht (a0d.refl _ _) R
  ·exact fun X G W k c=>LS.mk' ps_doc fun D σ H δ S Y F R ht rs rw'=>by
    rw [a0l] at ht
    exact rs.nx δ S σ H ht (a0d.refl _ _) R
  ·cases h
 | .rai j es,sc,x,h=>by
  unfold a2I at h
  split at h
  ·simp only [zak] at h
   obtain ⟨⟨h1,h2⟩,h3⟩:=h
   exact fun X G W k c=>b5Z c h1 h2 (sL es sc _ h3)
  ·cases h
 | .tra b j i s,sc,x,h=>by
  unfold a2I at h
  split at h
  ·simp only [zak,zah] at h
   obtain ⟨⟨⟨⟨h1,h2⟩,h3⟩,h4⟩,h5,h6⟩:=h
   exact fun X G W k c=>b53 c h1 h2 h3 h4 (sSs b sc _ h5) (sSs s sc _ h6)
  ·cases h
 | .tro b j s,sc,x,h=>by
  unfold a2I at h
  split at h
  ·simp only [zak] at h
   obtain ⟨⟨h1,h2⟩,h5,h6⟩:=h
   exact fun X G W k c=>b55 c h1 h2 (sSs b sc _ h5) (sSs s sc _ h6)
  ·cases h
 | .tri i j l es,sc,x,h=>by
  unfold a2I at h
  split at h
  ·simp only [zak,zah,Bool.not_eq_true'] at h
   obtain ⟨⟨⟨⟨⟨⟨⟨⟨⟨⟨⟨h1,h2⟩,h3⟩,h4⟩,h5⟩,h6⟩,⟨h7,h8⟩,h9⟩,⟨l1,l2⟩,l3⟩,⟨s1,s2⟩,s3⟩,g1⟩,g2⟩,g3⟩:=h
   exact fun X G W k c=>b54 c h1 h2 h3 h4 h5 h6 h7 h8 h9 l1 l2 l3 s1 s2 s3 g1 g2 (sL es sc _ g3)
  ·cases h
 | .par i j es,sc,x,h=>by
  unfold a2I at h
  split at h
  ·simp only [zak,zah,Bool.not_eq_true'] at h
   obtain ⟨⟨⟨⟨⟨⟨⟨⟨⟨⟨⟨h1,h2⟩,h3⟩,h4⟩,h5⟩,h6⟩,h7⟩,h8⟩,h9⟩,g1⟩,g2⟩,g3⟩:=h
   exact fun X G W k c=>b5Y c h1 h2 h3 h4 h5 h6 h7 h8 h9 g1 g2 (sL es sc _ g3)
  ·cases h
 | .lck s,sc,x,h=>by
  unfold a2I at h
  exact fun X G W k c=>b5W (sS s sc x h X G W k c)
 | .nev,sc,x,h=>fun X G W k c=>LS.mk' ps_never fun D σ H δ S Y F R ht rs rw'=>by
  rw [a0l] at ht
  exact ht.elim
theorem sSs:∀ (s:RSs) (sc:Scope) (x:List Stmt),a09 n sc s x=true→a73 n sc s x
 | .nil,sc,x,h=>by
  unfold a09 at h
  cases x with
  | nil =>
   refine fun X G W k c=>PSs.imp pss_nil fun D σ H q=>?_
   obtain ⟨δ,S,Y,F,R,ht,rs,_⟩:=q
   rw [a0c] at ht
   exact rs.nx δ S σ H ht (a0d.refl _ _) R
  | cons _ _=>cases h
 | .cons s r,sc,x,h=>by
  unfold a09 at h
  split at h
  ·rw [zak] at h
   refine fun X G W k c=>PSs.imp (pss_cons (sS s sc _ h.1 X G W k c) (sSs r sc _ h.2 X G W k c)) fun D σ H q=>?_
   obtain ⟨δ,S,Y,F,R,ht,rs,rw'⟩:=q
   rw [a0c] at ht
   exact ⟨δ,S,Y,_,R,ht,⟨fun δ' S' σ' H' q P R'=>⟨δ',S',Y,F,R',q,rs.mono P,rw'.mono P⟩,rs.rt,rs.bk,rs.ct⟩,rw'⟩
  ·cases h
 | .cut s r,sc,x,h=>by
  unfold a09 at h
  split at h
  ·rw [zak] at h
   refine fun X G W k c=>PSs.imp (pss_cons (sS s sc _ h.1 X G W k c) (sSs r sc _ h.2 X G W k c)) fun D σ H q=>?_
   obtain ⟨δ,S,Y,F,R,ht,rs,rw'⟩:=q
   rw [a0c] at ht
   obtain ⟨J,hs,hj⟩:=ht
   exact ⟨δ,S,Y,_,R,hs,⟨fun δ' S' σ' H' q P R'=>⟨δ',S',Y,F,R',hj δ' S' q,rs.mono P,rw'.mono P⟩,rs.rt,rs.bk,rs.ct⟩,rw'⟩
  ·cases h
 | .frz i r,sc,x,h=>by
  unfold a09 at h
  refine fun X G W k c=>PSs.imp (sSs r sc x h X G W k c) fun D σ H q=>?_
  obtain ⟨δ,S,Y,F,R,ht,rs,rw'⟩:=q
  rw [a0c] at ht
  rcases ht with ht | ⟨a,ea,ht⟩
  ·exact ⟨δ,S,Y,F,R,ht,rs,rw'⟩
  obtain ⟨v,ev,rv⟩:=R.sl.at_ i _ ea
  cases a0q rv
  have hlt:i < σ.length:=by
   obtain ⟨hh,_⟩:=List.getElem?_eq_some_iff.mp ev
   exact hh
  have es:σ.set i (some (V.ref a))=σ:=by
   apply List.ext_getElem?
   intro j
   by_cases e:i=j
   ·subst e;rw [List.getElem?_set_self hlt,ev]
   ·rw [List.getElem?_set_ne e]
  rcases ht with ⟨ds,e1,q⟩ | ⟨ds,e1,q⟩
  ·have R2:Rel G.toGd (S.del a) H (δ.set i (some (.lst ds))) (σ.set i (some (V.ref a))):=⟨(R.sl.mono (a0d.freeze e1)).set (Rep.freeze R.ce e1),R.ce.freeze e1⟩
   rw [es] at R2
   exact ⟨_,_,Y,F,R2,q,rs.mono (a0d.freeze e1),rw'.mono (a0d.freeze e1)⟩
  ·have R2:Rel G.toGd (S.del a) H (δ.set i (some (.dic ds))) (σ.set i (some (V.ref a))):=⟨(R.sl.mono (a0d.freeze e1)).set (Rep.freezeK R.ce e1),R.ce.freeze e1⟩
   rw [es] at R2
   exact ⟨_,_,Y,F,R2,q,rs.mono (a0d.freeze e1),rw'.mono (a0d.freeze e1)⟩
end
def Meets (n:SN) (G:Option (Addr × Obj)→Gs) (np:Nat) (hot:Bool) (T:TR) (b:RSs):Prop:=∀ (m:Option (Addr × Obj)),m.isSome=hot→∀ (ds:List D) (S:SS) (K:DK) (Y:XK'),T m ds S K Y→ds.length=np ∧
 a0c (G m) b (ds.map some ++ List.replicate (n.N.length - ds.length) none) S (fun C fs _ S'=>Y C fs S') { nx:=fun _ S'=>K .non S',rt:=K,bk:=fun _ _=>False,ct:=fun _ _=>False }
theorem c2y {P:Program} {w:World} {K:zbj} {mg:Str→Option Value} {base:Heap} {hot:Bool} {k:Nat} {f:Addr} {name qual:Str} {params:Arguments} {body:List Stmt} {scope:Scope} {dV kV doc pm cdv ct oc:Value} {an od:Option Addr}
  {osl:Array (Option Value)} {ps:List Str} {T:TR} {b:RSs} {G:Option (Addr × Obj)→Gs} {g:Gd} (lk:K.lookup f=some ⟨oc,od,.func (PySem.W.fnOf name qual params body scope dV kV doc pm an cdv ct),osl⟩) (hcd:PySem.W.codeIn K cdv qual=true) (S:FnScope n.N ps scope)
  (hck:a09 n scope b body=true) (hG:∀ m,(G m).m0=m) (hg:∀ m,(G m).toGd=g) (ok:∀ m,GOk n P w K mg base (G m).toGm k) (xm:∀ m j x kd,(G m).xk j=some kd→n.cls[j]?=some x→MkF P w K mg base k ((G m).cl j) kd)
  (hm:Meets n G ps.length hot T b):FnG P w K mg base hot (k + 1) f (PySem.W.fnOf name qual params body scope dV kV doc pm an cdv ct) ps (spD g T):=by
 refine b0X lk hcd S (fun m vs H Q E hmh h=>?_) fun A outer s H vs Q E m hmh hM hr hsp=>?_
 ·obtain ⟨ds,S0,K0,Y0,ce,rp,ht,_⟩:=h
  rw [← rp.length]
  exact (hm m hmh ds S0 K0 Y0 ht).1
 ·obtain ⟨ds,S0,K0,Y0,ce,rp,ht,res,rex⟩:=hsp
  obtain ⟨hl,hd⟩:=hm m hmh ds S0 K0 Y0 ht
  have hx:XS n (cxM P w K mg base n.N qual scope f cdv A outer s H E m) (G m) (fun cls d _ H'=>E cls d H') k scope:=by
   refine ⟨⟨ok m,rfl,b1n.self (fun _=>rfl),?_,?_,?_,?_⟩,rfl,fun _=>rfl,rfl,rfl,xm m⟩
   ·exact hr
   ·rw [hG m]
    cases m with
    | none=>exact ⟨hM.1,rfl⟩
    | some p=>exact ⟨hM.1,⟨hM.2.1.1,hM.2.1.2⟩,zal⟩
   ·exact L2N.takes_of rfl rfl rfl rfl
   ·exact passes_of rfl
  refine ⟨_,sSs b scope body hck _ (G m) _ k hx,?_⟩
  have hN:ds.length≤n.N.length:=by
   have:=congrArg List.length S.pre
   rw [List.length_take] at this
   omega
  rw [hg m]
  refine ⟨_,S0,_,_,⟨a5O.start (N:=n.N) rp,ce⟩,hd,⟨fun δ' S' σ' H' q P R'=>res .non S' .non H' q P R'.ce (by simp only [Rep]),res,fun _ _ _ _ z=>z.elim,fun _ _ _ _ z=>z.elim⟩,fun C fs δ' S' d σ' H' y P R' x=>rex C fs S' d H' y P R'.ce x⟩
end Sv
namespace Sv
open PySem PySem.Spec PyProof.Rows L2 PySem.W PySem.Calls
open L2H (RoomH)
structure b3C (K:zbj) (mg:Str→Option Value) (s:Shared):Prop where
 inK:K.In s.heap
 main:s.heap.Ns mainGlobals mg
 builtins:∃ mb,s.heap.Ns builtinsNs mb∧∀ x:Str,x ≠ "__name__" → mb x=bootBuiltins x
 nolimit:s.heap.NoLimit
 noGens:s.gens=#[]
structure a1d (K:zbj) (P:Program) (w:World) (H:Hp) (s:Shared) (a:Addr) (xs:List V):Prop where
 list:SqL K H a xs
 ok:HOk P w H s.heap
 frozen:∀ b u,H b=some u→∃ o ys,u=.frz o (.lst ys)
 own:∀ b u,H b=some u→K.lookup b=none∧∃ items n,(∃ o,s.heap.get? b=some o∧o.data=.seq items n)
theorem a1d.is {K:zbj} {P:Program} {w:World} {s:Shared} {a:Addr} {vs:List Value} {ns:List Int} (inK:K.In s.heap) (at_a:s.heap.get? a=some { cls:=.type "list",data:=.seq vs.toArray }) (whole:IntsAre vs ns) (short:ns.length≤sizeLine) :
  ∃ H,a1d K P w H s a (ns.map V.int):=by
 have reads:=vals_ints whole
 have size:vs.toArray.size≤sizeLine:=by rw [List.size_toArray,whole.length];exact short
 cases known:K.lookup a with
 | some o =>
  have same:=(inK a o known).symm.trans at_a
  cases same
  exact ⟨fun _=>none,.inr ⟨_,_,_,known,rfl,rfl,rfl,size,by simpa using reads⟩,nofun,nofun,nofun⟩
 | none =>
  let kept:HO:=.frz { cls:=.type "list",data:=.seq vs.toArray } (.lst (ns.map V.int))
  have only:∀ {b u},(if b=a then some kept else none)=some u→b=a∧u=kept:=by
   intro b u e
   split at e
   ·exact ⟨‹_›,(Option.some.inj e).symm⟩
   ·cases e
  refine ⟨fun b=>if b=a then some kept else none,.inl (.inr ⟨_,if_pos rfl⟩),?_,?_,?_⟩
  all_goals
   intro b u e
   obtain ⟨rfl,rfl⟩:=only e
  ·exact ⟨at_a,by rw [zag];exact short,vs,_,reads,at_a⟩
  ·exact ⟨_,_,rfl⟩
  ·exact ⟨known,_,_,_,at_a,rfl⟩
theorem a1d.base {K:zbj} {P:Program} {w:World} {H:Hp} {s:Shared} {a:Addr} {xs:List V} (T:a1d K P w H s a xs) {b:Addr} {o:Obj} (e:s.heap.get? b=some o) (no:∀ items n,o.data≠.seq items n):(hidT s.heap H).get? b=some o:=by
 cases tracked:H b with
 | none=>exact hidT_get e tracked
 | some u =>
  have ⟨_,items,n,o',e',d⟩:=T.own b u tracked
  cases e.symm.trans e'
  exact (no _ _ d).elim
theorem a1d.names {K:zbj} {P:Program} {w:World} {H:Hp} {s:Shared} {a:Addr} {xs:List V} (T:a1d K P w H s a xs) {b:Addr} {m:Str→Option Value}:s.heap.Ns b m→(hidT s.heap H).Ns b m
 | ⟨o,es,ep,e,d,r⟩=>⟨o,es,ep,T.base e (by rw [d];nofun),d,r⟩
theorem a1d.inK {K:zbj} {P:Program} {w:World} {H:Hp} {s:Shared} {a:Addr} {xs:List V} (T:a1d K P w H s a xs) (k:K.In s.heap):K.In (hidT s.heap H):=by
 intro b o known
 cases tracked:H b with
 | none=>exact hidT_get (k b o known) tracked
 | some u=>cases known.symm.trans (T.own b u tracked).1
theorem a1d.env {K:zbj} {P:Program} {w:World} {mg:Str→Option Value} {H:Hp} {s:Shared} {a:Addr} {xs:List V} (T:a1d K P w H s a xs) (G:b3C K mg s):Env0 P w K mg (hidT s.heap H) callerA [] s H where
 frames:=rfl
 mod:=⟨T.inK G.inK,T.names G.main,G.builtins.imp fun _ z=>⟨T.names z.1,z.2⟩,G.nolimit.imp fun _ z=>⟨T.names z.1,z.2⟩⟩
 bs b o e:=of_hidT e
 bsz:=Nat.le_of_eq (hidT_size _ _)
 funs:=trivial
 frf b z:=nomatch (show b∈([]:List Addr) from z)
 hok:=T.ok
 bare:=.of_eq G.noGens
theorem a1d.old {K:zbj} {P:Program} {w:World} {H H':Hp} {s s':Shared} {a:Addr} {xs:List V} (T:a1d K P w H s a xs) (un:Un (frs ([]:List Env)) [] H H' s.heap s'.heap) (hok:HOk P w H' s'.heap):OldK s.heap s'.heap:=by
 refine OldK.of_keep fun b o e=>?_
 cases tracked:H b with
 | none=>exact un.keep b o e tracked (fun z=>nomatch (show b∈([]:List Addr) from z)) (by simp)
 | some u =>
  obtain ⟨o',ys,rfl⟩:=T.frozen b u tracked
  cases e.symm.trans (T.ok b _ tracked).1
  exact (hok b _ (un.frzs b _ _ tracked)).1
theorem b1Y {P:Program} {w:World} {K:zbj} {mg:Str→Option Value} {k:Nat} {fa a:Addr} {fd:FuncData} {x:Str} {sp:SpM} {s:Shared} {vs:List Value} {ns:List Int} (G:b3C K mg s)
  (at_a:s.heap.get? a=some { cls:=.type "list",data:=.seq vs.toArray }) (whole:IntsAre vs ns) (short:ns.length≤sizeLine) (room:RoomH k callerA) (F:∀ base:Heap,K.In base→base.Ns mainGlobals mg→FnG P w K mg base false k fa fd [x] sp)
  (binds:∀ (s:Shared) (u:Value),BindsTo s fd ⟨[u],[]⟩ [(x,u)]) (does:∀ H:Hp,SqL K H a (ns.map V.int)→sp none [.ref a] H (fun v _=>v=.bl true) fun _ _ _=>False) :
  codeAny (model P w) callerA (.call (.ref fa) ⟨[.ref a],[]⟩) (fun r s'=>r=.ok (.ret (.bool true))∧OldK s.heap s'.heap∧s'.os=s.os∧AllBare s'.gens) s:=by
 have ⟨H,T⟩:=a1d.is (P:=P) (w:=w) G.inK at_a whole short
 have promise:=F _ (T.inK G.inK) (T.names G.main)
 have walked:=promise.run callerA [] s H ⟨[.ref a],[]⟩ [.ref a] [.ref a] _ _ none rfl room ⟨rfl,rfl⟩ (T.env G) (binds s _) (.cons rfl .nil) (does H T.list)
 refine codeAny_mono walked ?_
 rintro (err | fl) s' told
 ·have ⟨_,_,_,_,_,_,_,_,_,_,_,_,never⟩:=told
  exact never.elim
 ·cases fl with
  | ret u =>
   obtain ⟨v,H',sameOs,bare,un,hok,rel,rfl⟩:=told
   have is:u=.bool true:=rel
   exact ⟨congrArg (fun z=>Except.ok (Flow.ret z)) is,T.old un hok,sameOs,bare⟩
  | _=>exact told.elim
theorem walk_ofG {l:PySem.W.OpenLaw} {n k:Nat} {q:Program} {loose:List Str} {XP:(Str→Option Value)→Heap→Prop} {YP:World→Heap→Prop} {d:DefRec} {x:Str} (most:l.most=some n) (few:n≤sizeLine) (noDf:d.params.defaults=[]) (room:RoomH k callerA)
  (kept:∀ w mg fa h,YP w h→h.Ns mainGlobals mg→mg d.name=some (.ref fa)→∃ (K:zbj) (fd:FuncData) (sp:SpM),K.In h∧(∀ s u,BindsTo s fd ⟨[u],[]⟩ [(x,u)]) ∧
   (∀ H a (ns:List Int),ns.length≤n→SqL K H a (ns.map V.int)→sp none [.ref a] H (fun v _=>v=.bl true) fun _ _ _=>False)∧∀ base:Heap,K.In base→base.Ns mainGlobals mg→FnG l.prog w K mg base false k fa fd [x] sp) :
  PySem.W.WalkO q loose XP YP l.row.toRowW d [] fun f vs=>PySem.call f vs :=
 Att.attach_call most noDf fun w _ s₁ mg _ fa _ _ _ _ _ _ _ G told _ _ _ nm lst whole short noGens =>
  have ⟨_,_,_,inK,binds,does,F⟩:=kept w mg fa _ told G.T.g nm
  b1Y ⟨inK,G.T.g,⟨_,G.T.b,G.T.builtins⟩,G.T.nolimit,noGens⟩ lst whole (Nat.le_trans short few) room F binds fun H o=>does H _ _ short o
def lawT (n:Nat):TR:=fun m ds S K Y=>∃ ns:List Int,ns.length≤n∧ds=[.lst (ns.map .int)]∧S=(fun _=>none)∧∀ S',K (.bl true) S'
theorem law_sp {g:Gd} {n:Nat} {H:Hp} {a:Addr} {ns:List Int} (hl:ns.length≤n) (hS:SqL g.K H a (ns.map V.int)):spD g (lawT n) none [.ref a] H (fun v _=>v=.bl true) fun _ _ _=>False:=by
 have ri:∀ ms:List Int,a0e g (fun _=>none) H (ms.map D.int) (ms.map V.int):=by
  intro ms
  induction ms with
  | nil=>simp only [List.map_nil,a0e]
  | cons m ms ih =>
   simp only [zax,a0e]
   exact ⟨_,_,rfl,by simp only [Rep],ih⟩
 refine ⟨[.lst (ns.map .int)],fun _=>none,fun d _=>d=.bl true,fun _ _ _=>False,(fun a c e=>nomatch e),?_,⟨ns,hl,rfl,rfl,fun _=>rfl⟩,?_,fun _ _ _ _ _ z=>z.elim⟩
 ·simp only [a0e,Rep]
  refine ⟨.ref a,[],rfl,⟨a,ns.map V.int,rfl,?_,ri ns⟩,rfl⟩
  rcases hS with h | h
  ·exact .inl ⟨rfl,h⟩
  ·exact .inr (.inr h)
 ·rintro d S' v H' rfl P c r
  exact a2A r
theorem b3T {r:Option CFound} {v:Value} (h:cvB r v=true):r=some (.val v):=by
 unfold cvB at h
 split at h
 ·rw [of_decide_eq_true h]
 ·cases h
section
variable {K:Frag} {x:Str}
theorem a1r (c:(Fx.oex x).ok K=true):OexC K (He.ga K x):=by
 have ⟨shape,c⟩:=He.ba (show b6G K (He.ga K x)=true from c)
 have ⟨sets,c⟩:=He.ba c
 have ⟨under,c⟩:=He.ba c
 have ⟨typ,kept⟩:=He.ba c
 refine ⟨?_,He.eqO_ok sets,of_decide_eq_true under,of_decide_eq_true typ,kept⟩
 split at shape
 ·rename_i dd cd sl look
  split at shape
  ·rename_i C' bm k0 k1 k2 k3 n k5 em es
   simp only [zak,zah,Bool.not_eq_true'] at shape
   obtain ⟨⟨⟨⟨here,new⟩,noDel⟩,dict⟩,tail⟩:=shape
   obtain ⟨nm,bs,mro,ns,qn,hd,sn,sub,ab,col,del⟩:=cd
   obtain ⟨ls⟩:=sl
   cases em;cases es;cases here;cases new;cases noDel;cases dict
   exact ⟨_,_,_,_,_,_,_,_,_,_,_,_,_,_,_,look,tail⟩
  ·cases shape
 ·cases shape
theorem a4b (c:(Fx.ini x).ok K=true):findIn K (.ref (He.ga K x)) "__init__" = some (some (.ref (He.ma K (He.ga K x) "__init__")))∧typeIn K (.ref (He.ma K (He.ga K x) "__init__"))=some (.type "function"):=by
 obtain ⟨c1,c2⟩:=He.ba c
 exact ⟨He.eqO_ok c1,of_decide_eq_true c2⟩
theorem a3Y (c:(Fx.bas x).ok K=true):b7t K (He.ga K x):=by
 obtain ⟨c1,c⟩:=He.ba c
 obtain ⟨c2,c3⟩:=He.ba c
 exact ⟨c1,He.eqO_ok c2,b3T c3⟩
theorem b4w (c:(Fx.exf x).ok K=true):a7R K (He.ga K x):=by
 have ⟨k1,c⟩:=He.ba (show b8M K x=true from c)
 have ⟨k2,c⟩:=He.ba c
 have ⟨k3,c⟩:=He.ba c
 have ⟨k4,c⟩:=He.ba c
 have ⟨k5,c⟩:=He.ba c
 have ⟨k6,c⟩:=He.ba c
 have ⟨k7,k8⟩:=He.ba c
 exact { hg:=He.eqO_ok k1,hk:=He.eqO_ok k2,hs:=of_decide_eq_true k3,hd:=k4,ha:=He.eqO_ok k5,hn:=He.eqO_ok k6,ht:=of_decide_eq_true k7,hm:=of_decide_eq_true k8 }
theorem a6c {xs:List Str} (c:(Fx.exfs xs).ok K=true) (hx:x∈xs):a7R K (He.ga K x):=b4w (x:=x) (List.all_eq_true.mp c x hx)
theorem b1Q (cl:Cls K (He.ga K x)) (c:(Fx.insf x).ok K=true):b7u K (He.ga K x):=by
 obtain ⟨c5,c⟩:=He.ba c
 obtain ⟨c6,c⟩:=He.ba c
 obtain ⟨c7,c8⟩:=He.ba c
 have ⟨c8,own⟩:=He.ba c8
 exact ⟨cl,He.eqO_ok c5,He.eqO_ok c6,of_decide_eq_true c7,of_decide_eq_true c8,of_decide_eq_true own⟩
theorem a2u {f:Str} (c:(Fx.nov x f).ok K=true):findIn K (.ref (He.ga K x)) f=some none:=He.eqO_ok c
theorem b6w {n:String} (cl:Cls K (He.ga K x)) (c:(Fx.tyo x).ok K=true) (h:(PySem.fastBuiltinMro n).any (fun l=>!l.any fun v=>match v with | .ref _=>true | _=>false)=true):kitOne K (.type n) (.ref (He.ga K x))=some false:=by
 have c:typeIn K (.ref (He.ga K x))=some (.type "type"):=of_decide_eq_true c
 have hd:(clsIn K (He.ga K x)).isSome=true:=by
  have:=cl.hd
  unfold hasDictIn at this
  cases e:clsIn K (He.ga K x) with
  | none=>rw [e] at this;cases this
  | some d=>rfl
 show (if (Value.type n == Value.ref (He.ga K x))=true then some true else kitCls K (.type n) (.ref (He.ga K x)))=some false
 rw [if_neg (by intro e;exact nomatch (beq_iff_eq.mp e))]
 unfold kitCls
 simp only
 rw [if_pos (by rw [hd,c];rfl)]
 show (PySem.fastBuiltinMro n).map (·.contains (.ref (He.ga K x)))=some false
 cases e:PySem.fastBuiltinMro n with
 | none=>rw [e] at h;cases h
 | some l =>
  rw [e] at h
  have h:(!l.any fun v=>match v with | .ref _=>true | _=>false)=true:=h
  refine congrArg some ?_
  rw [← Bool.not_eq_true,List.contains_iff_mem]
  intro hm
  rw [Bool.not_eq_true'] at h
  exact absurd (List.any_eq_true.mpr ⟨_,hm,rfl⟩) (by rw [h];exact zbe)
theorem b5J {xs:List Str} {y:Str} (c:(Fx.sib xs).ok K=true) (hx:x∈xs) (hy:y∈xs):kitOne K (.ref (He.ga K x)) (.ref (He.ga K y))=some (decide (x=y)) :=
 of_decide_eq_true (List.all_eq_true.mp (List.all_eq_true.mp c x hx) y hy)
theorem a9F {xs:List Str} {n:String} (c:(Fx.veT xs n).ok K=true) (hx:x∈xs):kitOne K (.ref (He.ga K x)) (.type n)=some true:=of_decide_eq_true (List.all_eq_true.mp c x hx)
theorem b0W {xs:List Str} {y:Str} (c:(Fx.exA xs y).ok K=true) (hx:x∈xs):exmOne K (.ref (He.ga K x)) (.ref (He.ga K y))=some true:=of_decide_eq_true (List.all_eq_true.mp c x hx)
end
def obsX (fa:List He.Fa) (fn:List He.DefD) (fx:List Fx) (K:Frag):AlX:=(He.obsD fa fn K,fx.all fun f=>f.ok K)
def SaysX (fa:List He.Fa) (fn:List He.DefD) (fx:List Fx) (K:Frag):Prop:=obsX fa fn fx K=(He.valD fn,true)
section
variable {fa:List He.Fa} {fn:List He.DefD} {fx:List Fx} {K:Frag}
theorem SaysX.d (c:SaysX fa fn fx K):He.SaysD fa fn K:=congrArg (fun z:AlX=>z.1) c
theorem SaysX.fact (c:SaysX fa fn fx K) (i:Nat) {f:Fx} (h:fx[i]?=some f):f.ok K=true:=by
 have c1:(fx.all fun f=>f.ok K)=true:=congrArg (fun z:AlX=>z.2) c
 exact List.all_eq_true.mp c1 f (zaq h)
end
theorem b8O {n:SN} {P:Program} {w:World} {K:zbj} {mg:Str→Option Value} {base:Heap} {hot:Bool} {k:Nat} {f:Addr} {fd:FuncData} {x qual:Str} {params:Arguments} {body:List Stmt} {scope:Scope} {dvs:List V} {kws:List (Str × V)} {ps:List Str} {T:TR} {b:RSs} {G:Option (Addr × Obj)→Gs} {g:Gd}
  (F:FunD K x qual params body scope dvs kws f fd) (S:FnScope n.N ps scope)
  (hck:a09 n scope b body=true) (hG:∀ m,(G m).m0=m) (hg:∀ m,(G m).toGd=g) (ok:∀ m,GOk n P w K mg base (G m).toGm k) (xm:∀ m j x kd,(G m).xk j=some kd→n.cls[j]?=some x→MkF P w K mg base k ((G m).cl j) kd)
  (hm:Meets n G ps.length hot T b):FnG P w K mg base hot (k + 1) f fd ps (spD g T):=by
 obtain ⟨oc,od,dV,kV,doc,pm,an,cdv,ct,osl,rfl,lk,hcd,_,_⟩:=F.ex
 exact c2y lk hcd S hck hG hg ok xm hm
theorem a1H {P:Program} {w:World} {K:zbj} {mg:Str→Option Value} {base:Heap} {k:Nat} {f:Addr} {fd:FuncData} {x qual:Str} {params:Arguments} {body:List Stmt} {scope:Scope} {dvs:List V} {kws:List (Str × V)} {N:List Str} {C B:Addr} {z fl:Str}
  (F:FunD K x qual params body scope dvs kws f fd) (S:FnScope N N scope) (hb:b1P N scope fl body z=true) (hz:mg z=some (.ref B)) (bf:b7t K B) (T:OexC K C) (no:PySem.W.findIn K (.ref C) fl=some none):FnG P w K mg base false (k + 1) f fd N (spI C fl):=by
 obtain ⟨oc,od,dV,kV,doc,pm,an,cdv,ct,osl,rfl,lk,hcd,_,_⟩:=F.ex
 exact b1J lk hcd S hb hz bf T no
end Sv
namespace Sv
open PySem PySem.Spec PyProof.Rows L2
open L2H (RoomH)
structure Tb where
 fns:List En
 cls:List Str
 gvs:List Str
 tc:List (Option TR)
 th:List (Option TR)
 gv:List D
 xk:List (Option XKd)
 hd:List Nat
 kd:List (Option (List (Key × D)))
def Tb.lo (t:Tb) (i:Nat):Nat:=t.hd.getD i 0
def Tb.sn (t:Tb) (N:List Str):SN:=⟨N,t.fns,t.cls,t.gvs⟩
def Tb.T (t:Tb) (h:Bool) (j:Nat):Option TR:=(if h=true then t.th else t.tc)[j]?.join
def Tb.C (t:Tb) (K:zbj) (j:Nat):Addr:=He.ga K (t.cls.getD j "")
def Tb.M (t:Tb) (K:zbj) (j:Nat):Addr:=match t.fns[j]? with
 | some (.mt C _)=>He.ga K C
 | _=>0
def Tb.G (t:Tb) (K:zbj) (i:Nat) (m:Option (Addr × Obj)):Gs :=
 { K:=K,m0:=m,fn:=fun h j=>if j < t.lo i then t.T h j else none,gv:=fun j=>t.gv.getD j .non,cl:=fun j=>t.C K j,mc:=fun j=>t.M K j,xk:=fun j=>t.xk[j]?.join,kd:=fun j=>t.kd[j]?.join }
structure b7B (t:Tb) (w:World) (K:zbj) (mg:Str→Option Value):Prop where
 cl:∀ x,x∈t.cls→mg x=some (.ref (He.ga K x))
 gv:∀ j x,t.gvs[j]?=some x→∃ v u,mg x=some u∧RelV v u∧∀ S H,Rep ⟨K⟩ S H (t.gv.getD j .non) v
 bt:∀ x,x∈a3Z→mg x=none
 kd:∀ (j:Nat) (x:Str) (kvs:List (Key × D)),t.gvs[j]?=some x→t.kd[j]?.join=some kvs→∃ p,mg x=some (.ref p)∧b6C K w p kvs
def c00 (K:zbj) (mg:Str→Option Value) (f:Addr):En→Prop
 | .fn x=>mg x=some (.ref f)∧PySem.W.keepIn K (.ref f)=true
 | .mt C m=>Cls K (He.ga K C)∧Meth K (He.ga K C) m f∧(m = "__init__" → mg C=some (.ref (He.ga K C))∧Mk K (He.ga K C) f)
def a0s (t:Tb) (P:Program) (w:World) (K:zbj) (mg:Str→Option Value) (base:Heap) (i d:Nat):Prop:=∀ h j T x,j < i→t.T h j=some T→t.fns[j]?=some x →
 ∃ f fd ps,c00 K mg f x∧L2.Binds K fd ps []∧FnG P w K mg base h (2 * d + 2) f fd ps (spD ⟨K⟩ T)
section
variable {t:Tb} {P:Program} {w:World} {K:zbj} {mg:Str→Option Value} {base:Heap} {i d:Nat}
theorem a0s.zero:a0s t P w K mg base 0 0:=fun h j T x hj=>absurd hj (Nat.not_lt_zero _)
theorem a0s.step {e:Nat} (A:a0s t P w K mg base i e) (he:e≤d + 1) {x:En} {f:Addr} {fd:FuncData} {ps:List Str} (hx:t.fns[i]?=some x) (at_f:c00 K mg f x) (b:L2.Binds K fd ps [])
  (hc:∀ T,t.T false i=some T→FnG P w K mg base false (2 * d + 4) f fd ps (spD ⟨K⟩ T)) (hh:∀ T,t.T true i=some T→FnG P w K mg base true (2 * d + 4) f fd ps (spD ⟨K⟩ T)):a0s t P w K mg base (i + 1) (d + 1):=by
 intro h j T y hj hT hy
 by_cases e:j < i
 ·obtain ⟨f,fd,ps,h1,h2,F⟩:=A h j T y e hT hy
  exact ⟨f,fd,ps,h1,h2,F.mono (by omega)⟩
 ·have e:j=i:=by omega
  subst e
  rw [hx] at hy
  cases hy
  refine ⟨f,fd,ps,at_f,b,?_⟩
  cases h with
  | false=>exact hc T hT
  | true=>exact hh T hT
theorem a0s.gok (A:a0s t P w K mg base (t.lo i) d) (ok:b7B t w K mg) {N:List Str} (nd:N.Nodup) (m:Option (Addr × Obj)):GOk (t.sn N) P w K mg base (t.G K i m).toGm (2 * d + 3) where
 K:=rfl
 nd:=nd
 fn:=fun h j T x hT hx=>by
  have hT:(if j < t.lo i then t.T h j else none)=some T:=hT
  split at hT
  ·rename_i hj
   obtain ⟨f,fd,ps,h1,h2,F⟩:=A h j T _ hj hT hx
   exact ⟨f,fd,ps,h1.1,h1.2,h2,F.mono (by omega)⟩
  ·cases hT
 meth:=fun h j T C m hT hx=>by
  have hT:(if j < t.lo i then t.T h j else none)=some T:=hT
  split at hT
  ·rename_i hj
   obtain ⟨f,fd,ps,h1,h2,F⟩:=A h j T _ hj hT hx
   have e:t.M K j=He.ga K C:=by
    have hx:t.fns[j]?=some (.mt C m):=hx
    unfold Tb.M
    rw [hx]
   show ∃ f fd ps,Cls K (t.M K j)∧Meth K (t.M K j) m f∧_
   rw [e]
   exact ⟨f,fd,ps,h1.1,h1.2.1,h2,F.mono (by omega)⟩
  ·cases hT
 made:=fun j T C hT hx=>by
  have hT:(if j < t.lo i then t.T false j else none)=some T:=hT
  split at hT
  ·rename_i hj
   obtain ⟨f,fd,ps,h1,h2,F⟩:=A false j T _ hj hT hx
   have e:t.M K j=He.ga K C:=by
    have hx:t.fns[j]?=some (.mt C "__init__"):=hx
    unfold Tb.M
    rw [hx]
   show mg C=some (.ref (t.M K j))∧∃ f fd ps kI,Mk K (t.M K j) f∧_
   rw [e]
   exact ⟨(h1.2.2 rfl).1,f,fd,ps,_,(h1.2.2 rfl).2,h2,Nat.le_refl _,F⟩
  ·cases hT
 gv:=ok.gv
 cl:=fun j x hx=>by
  have hx:t.cls[j]?=some x:=hx
  have e:t.cls.getD j "" = x:=by rw [List.getD_eq_getElem?_getD,hx];rfl
  show mg x=some (.ref (He.ga K (t.cls.getD j "")))
  rw [e]
  exact ok.cl x (zaq hx)
 bt:=ok.bt
 kd:=ok.kd
def XOk (t:Tb) (P:Program) (w:World) (K:zbj) (mg:Str→Option Value) (base:Heap):Prop:=∀ (j:Nat) (x:Str) (kd:XKd),t.xk[j]?.join=some kd→t.cls[j]?=some x→MkF P w K mg base 2 (He.ga K x) kd
theorem MkF.mono {C:Addr} {kd:XKd} {j k:Nat} (h:MkF P w K mg base j C kd) (hj:j≤k):MkF P w K mg base k C kd:=by
 cases h with
 | fld T iC tI F b hk=>exact .fld T iC tI F b (Nat.le_trans hk hj)
 | bare Fb q kC e1 e2=>exact .bare Fb q kC e1 e2
theorem a0m {hot:Bool} {f:Addr} {fd:FuncData} {x qual:Str} {params:Arguments} {body:List Stmt} {scope:Scope} {dvs:List V} {kws:List (Str × V)} {N ps:List Str} {T:TR} {b:RSs}
  (A:a0s t P w K mg base (t.lo i) d) (ok:b7B t w K mg) (xo:XOk t P w K mg base) (F:FunD K x qual params body scope dvs kws f fd) (S:FnScope N ps scope) (hck:a09 (t.sn N) scope b body=true) (hm:Meets (t.sn N) (t.G K i) ps.length hot T b):FnG P w K mg base hot (2 * d + 4) f fd ps (spD ⟨K⟩ T):=by
 refine b8O (n:=t.sn N) (G:=t.G K i) (k:=2 * d + 3) F S hck (fun _=>rfl) (fun _=>rfl) (fun m=>A.gok ok S.nd m) (fun m j y kd h hy=>?_) hm
 have hy:t.cls[j]?=some y:=hy
 have e:t.cls.getD j "" = y:=by rw [List.getD_eq_getElem?_getD,hy];rfl
 show MkF P w K mg base (2 * d + 3) (He.ga K (t.cls.getD j "")) kd
 rw [e]
 exact (xo j y kd h hy).mono (by omega)
end
end Sv
namespace Sv
open PySem PySem.Spec PyProof.Rows L2
class Rdg (p:Prop) (q:outParam Prop):Prop where
 go:q→p
class M0 (m:Option (Addr × Obj)):Prop where
 out:m=none
instance {t:Tb} {K:zbj} {i:Nat}:M0 (t.G K i none).toGm.m0:=⟨rfl⟩
section
variable {G:Gm} {δ:DS} {S:SS} {Y:XD'} {K:DK} {KT:Bool→SS→Prop} {KL:List D→SS→Prop} {a b c:RE} {es:RL} {d x y:D} {i j:Int} {p:Addr} {op:Operator}
theorem b8K {i:Nat} (h:δ[i]?=some (some d)) (k:K d S):den G (.var i) δ S Y K:=by rw [den];dsimp only;rw [h];exact k
theorem a9Y {r:RC} (k:K r.d S):den G (.con r) δ S Y K:=by rw [den];exact k
theorem a4u {b:Bn} (hb:b.needs G.m0) (h:a0p G es δ S Y fun ds S1=>b.den ds S1 K):den G (.bi b es) δ S Y K:=by rw [den];exact ⟨hb,h⟩
theorem b3X {i:Int} (k:K (.int i) S):den G (.con (.int i)) δ S Y K:=a9Y k
instance b9M {i:Int}:Rdg (den G (.con (.int i)) δ S Y K) (K (.int i) S):=⟨b3X⟩
theorem b4b {i:Str} (k:K (.str i) S):den G (.con (.str i)) δ S Y K:=a9Y k
instance b9Y {i:Str}:Rdg (den G (.con (.str i)) δ S Y K) (K (.str i) S):=⟨b4b⟩
theorem c2o {i:Bool} (k:K (.bl i) S):den G (.con (.bl i)) δ S Y K:=a9Y k
instance c1k {i:Bool}:Rdg (den G (.con (.bl i)) δ S Y K) (K (.bl i) S):=⟨c2o⟩
theorem b8C (k:K .non S):den G (.con .non) δ S Y K:=a9Y k
instance b9R  : Rdg (den G (.con .non) δ S Y K) (K .non S):=⟨b8C⟩
theorem b4i (h:a0p G es δ S Y fun ds S1=>Bn.len.den ds S1 K):den G (.bi .len es) δ S Y K:=a4u trivial h
instance b6T  : Rdg (den G (.bi .len es) δ S Y K) (a0p G es δ S Y fun ds S1=>Bn.len.den ds S1 K):=⟨b4i⟩
theorem b4d (h:a0p G es δ S Y fun ds S1=>Bn.abs.den ds S1 K):den G (.bi .abs es) δ S Y K:=a4u trivial h
instance b6O  : Rdg (den G (.bi .abs es) δ S Y K) (a0p G es δ S Y fun ds S1=>Bn.abs.den ds S1 K):=⟨b4d⟩
theorem a5Z {i:Nat} (k:K (G.gv i) S):den G (.glb i) δ S Y K:=by rw [den];exact k
theorem b8s (h:den G a δ S Y fun x S1=>den G b δ S1 Y fun y S2=>opD op x y S2 K):den G (.bin op a b) δ S Y K:=by rw [den];exact h
instance b9H  : Rdg (den G (.bin op a b) δ S Y K) (den G a δ S Y fun x S1=>den G b δ S1 Y fun y S2=>opD op x y S2 K):=⟨b8s⟩
theorem b8B (h:den G a δ S Y fun x S1=>∃ i,x=.int i∧K (.int (-i)) S1):den G (.neg a) δ S Y K:=by rw [den];exact h
instance b9Q  : Rdg (den G (.neg a) δ S Y K) (den G a δ S Y fun x S1=>∃ i,x=.int i∧K (.int (-i)) S1):=⟨b8B⟩
theorem c2s (h:den G a δ S Y fun x S1=>a1c x S1 fun b=>K (.bl (!b)) S1):den G (.nt a) δ S Y K:=by rw [den];exact h
instance c1o  : Rdg (den G (.nt a) δ S Y K) (den G a δ S Y fun x S1=>a1c x S1 fun b=>K (.bl (!b)) S1):=⟨c2s⟩
theorem b8r (h:a0Q G es δ S Y K):den G (.and es) δ S Y K:=by rw [den];exact h
instance b9G  : Rdg (den G (.and es) δ S Y K) (a0Q G es δ S Y K):=⟨b8r⟩
theorem c2t (h:a1t G es δ S Y K):den G (.or es) δ S Y K:=by rw [den];exact h
instance c1p  : Rdg (den G (.or es) δ S Y K) (a1t G es δ S Y K):=⟨c2t⟩
theorem b3U (h:den G a δ S Y K):a0Q G (.cons a .nil) δ S Y K:=by rw [a0Q];exact h
instance b6J  : Rdg (a0Q G (.cons a .nil) δ S Y K) (den G a δ S Y K):=⟨b3U⟩
theorem b8E (h:den G a δ S Y K):a1t G (.cons a .nil) δ S Y K:=by rw [a1t];exact h
instance b9T  : Rdg (a1t G (.cons a .nil) δ S Y K) (den G a δ S Y K):=⟨b8E⟩
theorem b3V (h:den G a δ S Y fun x S1=>a1c x S1 fun k=>if k=true then a0Q G (.cons b es) δ S1 Y K else K x S1):a0Q G (.cons a (.cons b es)) δ S Y K:=by rw [a0Q];exact h
instance b6K  : Rdg (a0Q G (.cons a (.cons b es)) δ S Y K) (den G a δ S Y fun x S1=>a1c x S1 fun k=>if k=true then a0Q G (.cons b es) δ S1 Y K else K x S1):=⟨b3V⟩
theorem b8F (h:den G a δ S Y fun x S1=>a1c x S1 fun k=>if k=true then K x S1 else a1t G (.cons b es) δ S1 Y K):a1t G (.cons a (.cons b es)) δ S Y K:=by rw [a1t];exact h
instance b9U  : Rdg (a1t G (.cons a (.cons b es)) δ S Y K) (den G a δ S Y fun x S1=>a1c x S1 fun k=>if k=true then K x S1 else a1t G (.cons b es) δ S1 Y K):=⟨b8F⟩
theorem b8w (h:a0o G c δ S Y fun k S1=>if k=true then den G a δ S1 Y K else den G b δ S1 Y K):den G (.ife c a b) δ S Y K:=by rw [den];exact h
instance b9L  : Rdg (den G (.ife c a b) δ S Y K) (a0o G c δ S Y fun k S1=>if k=true then den G a δ S1 Y K else den G b δ S1 Y K):=⟨b8w⟩
theorem b8u {op:CmpOp} (h:den G a δ S Y fun x S1=>den G b δ S1 Y fun y S2=>a0G op x y S2 K):den G (.cmp op a b) δ S Y K:=by rw [den];exact h
instance b9J {op:CmpOp}:Rdg (den G (.cmp op a b) δ S Y K) (den G a δ S Y fun x S1=>den G b δ S1 Y fun y S2=>a0G op x y S2 K):=⟨b8u⟩
theorem b8t {o1 o2:CmpOp} (h:den G a δ S Y fun x S1=>den G b δ S1 Y fun y S2=>a0G o1 x y S2 fun z S3=>∃ k,z=.bl k∧if k=true then den G c δ S3 Y fun w S4=>a0G o2 y w S4 K else K (.bl false) S3):den G (.chn o1 o2 a b c) δ S Y K:=by rw [den];exact h
instance b9I {o1 o2:CmpOp}:Rdg (den G (.chn o1 o2 a b c) δ S Y K) (den G a δ S Y fun x S1=>den G b δ S1 Y fun y S2=>a0G o1 x y S2 fun z S3=>∃ k,z=.bl k∧if k=true then den G c δ S3 Y fun w S4=>a0G o2 y w S4 K else K (.bl false) S3):=⟨b8t⟩
theorem b8z (h:a0p G es δ S Y fun ds S1=>ds.length≤sizeLine∧K (.lst ds) S1):den G (.lst false es) δ S Y K:=by
 rw [den];simpa only [Bool.false_eq_true,if_false] using h
instance b9O  : Rdg (den G (.lst false es) δ S Y K) (a0p G es δ S Y fun ds S1=>ds.length≤sizeLine∧K (.lst ds) S1):=⟨b8z⟩
theorem b3Y (h:a0p G es δ S Y fun ds S1=>ds.length≤sizeLine∧∀ p,S1 p=none→K (.obj p) (S1.set p (.lst ds))):den G (.lst true es) δ S Y K:=by
 rw [den];simpa only [if_true] using h
instance b6L  : Rdg (den G (.lst true es) δ S Y K) (a0p G es δ S Y fun ds S1=>ds.length≤sizeLine∧∀ p,S1 p=none→K (.obj p) (S1.set p (.lst ds))):=⟨b3Y⟩
theorem b8J (h:a0p G es δ S Y fun ds S1=>ds.length≤sizeLine∧K (.tup ds) S1):den G (.tup es) δ S Y K:=by rw [den];exact h
instance b9Z  : Rdg (den G (.tup es) δ S Y K) (a0p G es δ S Y fun ds S1=>ds.length≤sizeLine∧K (.tup ds) S1):=⟨b8J⟩
theorem c2p (h:den G a δ S Y fun x S1=>den G b δ S1 Y fun y S2=>ixD x y S2 K):den G (.ix a b) δ S Y K:=by rw [den];exact h
instance c1l  : Rdg (den G (.ix a b) δ S Y K) (den G a δ S Y fun x S1=>den G b δ S1 Y fun y S2=>ixD x y S2 K):=⟨c2p⟩
theorem b8I {lo hi:RO} (h:den G a δ S Y fun x S1=>a2o G lo δ S1 Y fun l S2=>a2o G hi δ S2 Y fun u S3=>b3l x l u S3 K):den G (.slc a lo hi) δ S Y K:=by rw [den];exact h
instance b9X {lo hi:RO}:Rdg (den G (.slc a lo hi) δ S Y K) (den G a δ S Y fun x S1=>a2o G lo δ S1 Y fun l S2=>a2o G hi δ S2 Y fun u S3=>b3l x l u S3 K):=⟨b8I⟩
theorem c2u {lo hi:RO} (h:den G a δ S Y fun x S1=>a2o G lo δ S1 Y fun l S2=>a2o G hi δ S2 Y fun u S3=>slD x l u S3 K):den G (.sl a lo hi) δ S Y K:=by rw [den];exact h
instance c1q {lo hi:RO}:Rdg (den G (.sl a lo hi) δ S Y K) (den G a δ S Y fun x S1=>a2o G lo δ S1 Y fun l S2=>a2o G hi δ S2 Y fun u S3=>slD x l u S3 K):=⟨c2u⟩
theorem c2r {KO:Option Int→SS→Prop} (k:KO none S):a2o G .nn δ S Y KO:=by rw [a2o];exact k
instance c1n {KO:Option Int→SS→Prop}:Rdg (a2o G .nn δ S Y KO) (KO none S):=⟨c2r⟩
theorem c2v {KO:Option Int→SS→Prop} (k:den G a δ S Y fun d S1=>∃ i,d=.int i∧KO (some i) S1):a2o G (.ss a) δ S Y KO:=by rw [a2o];exact k
instance c1r {KO:Option Int→SS→Prop}:Rdg (a2o G (.ss a) δ S Y KO) (den G a δ S Y fun d S1=>∃ i,d=.int i∧KO (some i) S1):=⟨c2v⟩
theorem b8v {f:Str} (h:den G a δ S Y fun x S1=>a8u G f x S1 K):den G (.fld a f) δ S Y K:=by rw [den];exact h
instance b9K {f:Str}:Rdg (den G (.fld a f) δ S Y K) (den G a δ S Y fun x S1=>a8u G f x S1 K):=⟨b8v⟩
theorem a0a {j:Nat} {T:TR} (hT:G.fn G.m0.isSome j=some T) (h:a0p G es δ S Y fun ds S1=>T G.m0 ds S1 K fun C fs S'=>Y C fs δ S'):den G (.call j es) δ S Y K:=by rw [den];exact ⟨T,hT,h⟩
theorem b8x {cn:Cn} (h:den G a δ S Y fun x S1=>∃ t b,tyD S1 x=some t∧a4S G S1 x∧PySem.W.kitOne G.K t (cn.val G)=some b∧K (.bl b) S1):den G (.isi a cn) δ S Y K:=by rw [den];exact h
instance b9N {cn:Cn}:Rdg (den G (.isi a cn) δ S Y K) (den G a δ S Y fun x S1=>∃ t b,tyD S1 x=some t∧a4S G S1 x∧PySem.W.kitOne G.K t (cn.val G)=some b∧K (.bl b) S1):=⟨b8x⟩
theorem b82 (k:KL [] S):a0p G .nil δ S Y KL:=by rw [a0p];exact k
instance b99  : Rdg (a0p G .nil δ S Y KL) (KL [] S):=⟨b82⟩
theorem b4Y (k:den G a δ S Y fun d S1=>a0p G es δ S1 Y fun ds S2=>KL (d :: ds) S2):a0p G (.cons a es) δ S Y KL:=by rw [a0p];exact k
instance b68  : Rdg (a0p G (.cons a es) δ S Y KL) (den G a δ S Y fun d S1=>a0p G es δ S1 Y fun ds S2=>KL (d :: ds) S2):=⟨b4Y⟩
theorem b4T {Q:Int→Prop} (k:Q i):∃ j,D.int i=.int j∧Q j:=⟨i,rfl,k⟩
instance b67 {Q:Int→Prop}:Rdg (∃ j,D.int i=.int j∧Q j) (Q i):=⟨b4T⟩
theorem b79 {b:Bool} {Q:Bool→Prop} (k:Q b):∃ j,D.bl b=.bl j∧Q j:=⟨b,rfl,k⟩
instance b9s {b:Bool} {Q:Bool→Prop}:Rdg (∃ j,D.bl b=.bl j∧Q j) (Q b):=⟨b79⟩
theorem b8q (h:den G a δ S Y fun x S1=>den G b δ S1 Y fun y S2=>b1q x y S2 K):den G (.adc a b) δ S Y K:=by rw [den];exact h
instance b9F  : Rdg (den G (.adc a b) δ S Y K) (den G a δ S Y fun x S1=>den G b δ S1 Y fun y S2=>b1q x y S2 K):=⟨b8q⟩
theorem b81 {Q:Str→Prop} {z:Str} (k:Q z):∃ z',D.str z=.str z'∧Q z':=⟨z,rfl,k⟩
instance b97 {Q:Str→Prop} {z:Str}:Rdg (∃ z',D.str z=.str z'∧Q z') (Q z):=⟨b81⟩
theorem c4a (h:a0o G a δ S Y fun b S1=>KT (!b) S1):a0o G (.nt a) δ S Y KT:=by rw [a0o];exact h
instance c1A  : Rdg (a0o G (.nt a) δ S Y KT) (a0o G a δ S Y fun b S1=>KT (!b) S1):=⟨c4a⟩
theorem c0O (h:a0J G es δ S Y KT):a0o G (.and es) δ S Y KT:=by rw [a0o];exact h
instance c0u  : Rdg (a0o G (.and es) δ S Y KT) (a0J G es δ S Y KT):=⟨c0O⟩
theorem c4b (h:a0W G es δ S Y KT):a0o G (.or es) δ S Y KT:=by rw [a0o];exact h
instance c1B  : Rdg (a0o G (.or es) δ S Y KT) (a0W G es δ S Y KT):=⟨c4b⟩
theorem b6n (h:a0o G a δ S Y KT):a0J G (.cons a .nil) δ S Y KT:=by rw [a0J];exact h
instance b7p  : Rdg (a0J G (.cons a .nil) δ S Y KT) (a0o G a δ S Y KT):=⟨b6n⟩
theorem c0U (h:a0o G a δ S Y KT):a0W G (.cons a .nil) δ S Y KT:=by rw [a0W];exact h
instance c0A  : Rdg (a0W G (.cons a .nil) δ S Y KT) (a0o G a δ S Y KT):=⟨c0U⟩
theorem b6o (h:a0o G a δ S Y fun k S1=>if k=true then a0J G (.cons b es) δ S1 Y KT else KT false S1):a0J G (.cons a (.cons b es)) δ S Y KT:=by rw [a0J];exact h
instance b7q  : Rdg (a0J G (.cons a (.cons b es)) δ S Y KT) (a0o G a δ S Y fun k S1=>if k=true then a0J G (.cons b es) δ S1 Y KT else KT false S1):=⟨b6o⟩
theorem c0V (h:a0o G a δ S Y fun k S1=>if k=true then KT true S1 else a0W G (.cons b es) δ S1 Y KT):a0W G (.cons a (.cons b es)) δ S Y KT:=by rw [a0W];exact h
instance c0B  : Rdg (a0W G (.cons a (.cons b es)) δ S Y KT) (a0o G a δ S Y fun k S1=>if k=true then KT true S1 else a0W G (.cons b es) δ S1 Y KT):=⟨c0V⟩
theorem c0Q {op:CmpOp} (h:den G a δ S Y fun x S1=>den G b δ S1 Y fun y S2=>a0G op x y S2 fun d S'=>∃ k,d=.bl k∧KT k S'):a0o G (.cmp op a b) δ S Y KT:=by rw [a0o];exact h
instance c0w {op:CmpOp}:Rdg (a0o G (.cmp op a b) δ S Y KT) (den G a δ S Y fun x S1=>den G b δ S1 Y fun y S2=>a0G op x y S2 fun d S'=>∃ k,d=.bl k∧KT k S'):=⟨c0Q⟩
theorem c0P {o1 o2:CmpOp} (h:den G a δ S Y fun x S1=>den G b δ S1 Y fun y S2=>a0G o1 x y S2 fun z S3=>∃ k,z=.bl k∧if k=true then den G c δ S3 Y fun w S4=>a0G o2 y w S4 fun d S'=>∃ k,d=.bl k∧KT k S' else ∃ k,D.bl false=.bl k∧KT k S3):a0o G (.chn o1 o2 a b c) δ S Y KT:=by rw [a0o];exact h
instance c0v {o1 o2:CmpOp}:Rdg (a0o G (.chn o1 o2 a b c) δ S Y KT) (den G a δ S Y fun x S1=>den G b δ S1 Y fun y S2=>a0G o1 x y S2 fun z S3=>∃ k,z=.bl k∧if k=true then den G c δ S3 Y fun w S4=>a0G o2 y w S4 fun d S'=>∃ k,d=.bl k∧KT k S' else ∃ k,D.bl false=.bl k∧KT k S3):=⟨c0P⟩
theorem c0W {i:Nat} (h:δ[i]?=some (some d)) (k:a1c d S fun b=>KT b S):a0o G (.var i) δ S Y KT:=by rw [a0o];dsimp only;rw [h];exact k
theorem c39 (h:den G a δ S Y fun x S1=>den G b δ S1 Y fun y S2=>ixD x y S2 fun d S3=>a1c d S3 fun b=>KT b S3):a0o G (.ix a b) δ S Y KT:=by rw [a0o];exact h
instance c1z  : Rdg (a0o G (.ix a b) δ S Y KT) (den G a δ S Y fun x S1=>den G b δ S1 Y fun y S2=>ixD x y S2 fun d S3=>a1c d S3 fun b=>KT b S3):=⟨c39⟩
theorem a5J {j:Nat} {T:TR} (hT:G.fn G.m0.isSome j=some T) (h:a0p G es δ S Y fun ds S1=>T G.m0 ds S1 (fun d S3=>a1c d S3 fun b=>KT b S3) fun C fs S'=>Y C fs δ S'):a0o G (.call j es) δ S Y KT:=by rw [a0o];exact ⟨T,hT,h⟩
theorem c0S {cn:Cn} (h:den G a δ S Y fun x S1=>∃ t b,tyD S1 x=some t∧a4S G S1 x∧PySem.W.kitOne G.K t (cn.val G)=some b∧KT b S1):a0o G (.isi a cn) δ S Y KT:=by rw [a0o];exact h
instance c0y {cn:Cn}:Rdg (a0o G (.isi a cn) δ S Y KT) (den G a δ S Y fun x S1=>∃ t b,tyD S1 x=some t∧a4S G S1 x∧PySem.W.kitOne G.K t (cn.val G)=some b∧KT b S1):=⟨c0S⟩
theorem c0R {f:Str} (h:den G a δ S Y fun x S1=>a8u G f x S1 fun d S3=>a1c d S3 fun b=>KT b S3):a0o G (.fld a f) δ S Y KT:=by rw [a0o];exact h
instance c0x {f:Str}:Rdg (a0o G (.fld a f) δ S Y KT) (den G a δ S Y fun x S1=>a8u G f x S1 fun d S3=>a1c d S3 fun b=>KT b S3):=⟨c0R⟩
theorem c0X {b:Bool} {Q:Bool→Prop} (k:Q b):a1c (.bl b) S Q:=k
instance c0C {b:Bool} {Q:Bool→Prop}:Rdg (a1c (.bl b) S Q) (Q b):=⟨c0X⟩
theorem b6s {Q:Bool→Prop} (k:Q (i != 0)):a1c (.int i) S Q:=k
instance b7r {Q:Bool→Prop}:Rdg (a1c (.int i) S Q) (Q (i != 0)):=⟨b6s⟩
theorem b9b (k:K (.int (i + j)) S):opD .Add (.int i) (.int j) S K:=k
instance c0k  : Rdg (opD .Add (.int i) (.int j) S K) (K (.int (i + j)) S):=⟨b9b⟩
theorem b9c (k:K (.int (i - j)) S):opD .Sub (.int i) (.int j) S K:=k
instance c0l  : Rdg (opD .Sub (.int i) (.int j) S K) (K (.int (i - j)) S):=⟨b9c⟩
theorem a4F (h:CMul i j∨CMulW i j) (k:K (.int (i * j)) S):opD .Mult (.int i) (.int j) S K:=⟨h,k⟩
theorem b0l (h:CDivW i j) (k:K (.int (i / j)) S):opD .FloorDiv (.int i) (.int j) S K:=⟨h,k⟩
theorem a1Z (h:0 < j) (k:K (.int (i % j)) S):opD .Mod (.int i) (.int j) S K:=⟨h,k⟩
theorem a2w {l m:List D} (h:l.length + m.length≤sizeLine) (k:K (.lst (l ++ m)) S):opD .Add (.lst l) (.lst m) S K:=⟨h,k⟩
theorem a7b {l m:Str} (h:l.length + m.length≤sizeLine) (k:K (.str (l ++ m)) S):opD .Add (.str l) (.str m) S K:=⟨h,k⟩
theorem c09:D.eqv (.int i) (.int j)=decide (i=j):=by
 simp only [D.eqv,D.py,PyData.eqv]
 rw [Bool.eq_iff_iff];simp
theorem b8b (k:K (.bl (decide (i=j))) S):a0G .Eq (.int i) (.int j) S K:=.inl ⟨rfl,rfl,by rw [Bool.false_xor];rw [← c09] at k;exact k⟩
instance b9t  : Rdg (a0G .Eq (.int i) (.int j) S K) (K (.bl (decide (i=j))) S):=⟨b8b⟩
theorem b8k (k:K (.bl (!decide (i=j))) S):a0G .NotEq (.int i) (.int j) S K:=.inl ⟨rfl,rfl,by rw [Bool.true_xor];rw [← c09] at k;exact k⟩
instance b9B  : Rdg (a0G .NotEq (.int i) (.int j) S K) (K (.bl (!decide (i=j))) S):=⟨b8k⟩
theorem b8j (k:K (.bl (decide (i < j))) S):a0G .Lt (.int i) (.int j) S K:=.inl k
instance b9A  : Rdg (a0G .Lt (.int i) (.int j) S K) (K (.bl (decide (i < j))) S):=⟨b8j⟩
theorem b8i (k:K (.bl (decide (i≤j))) S):a0G .LtE (.int i) (.int j) S K:=k
instance b9z  : Rdg (a0G .LtE (.int i) (.int j) S K) (K (.bl (decide (i≤j))) S):=⟨b8i⟩
theorem b8f (k:K (.bl (decide (j < i))) S):a0G .Gt (.int i) (.int j) S K:=k
instance b9w  : Rdg (a0G .Gt (.int i) (.int j) S K) (K (.bl (decide (j < i))) S):=⟨b8f⟩
theorem b8e (k:K (.bl (decide (j≤i))) S):a0G .GtE (.int i) (.int j) S K:=k
instance b9v  : Rdg (a0G .GtE (.int i) (.int j) S K) (K (.bl (decide (j≤i))) S):=⟨b8e⟩
theorem b8d {x y:D} (hx:D.okd 60 (vw S x)=true) (hy:D.okd 60 (vw S y)=true) (k:K (.bl (D.eqv (vw S x) (vw S y))) S):a0G .Eq x y S K:=.inl ⟨hx,hy,by rw [Bool.false_xor];exact k⟩
theorem b3M {x y:D} (hx:D.okd 60 (vw S x)=true) (hy:D.okd 60 (vw S y)=true) (k:K (.bl (!D.eqv (vw S x) (vw S y))) S):a0G .NotEq x y S K:=.inl ⟨hx,hy,by rw [Bool.true_xor];exact k⟩
theorem b0R {b:Addr} {l:List D} (h:S b=some (.lst l)):vw S (.obj b)=.lst l:=by simp only [vw,h]
theorem b6A {b:Addr} {l:List (Key × D)} (h:S b=some (.dic l)):vw S (.obj b)=.dic l:=by simp only [vw,h]
theorem a8G {l:List D} (h:S p=some (.lst l)) (e:atI l i=some d) (k:K d S):ixD (.obj p) (.int i) S K:=by
 unfold ixD;rw [b0R h];exact ⟨d,e,k⟩
theorem a3V {l:List D} (e:atI l i=some d) (k:K d S):ixD (.lst l) (.int i) S K:=⟨d,e,k⟩
theorem b1V {l:List D} (e:atI l i=some d) (k:K d S):ixD (.tup l) (.int i) S K:=⟨d,e,k⟩
theorem c2G {z:Str} {c:Nat} (hz:z.length≤sizeLine) (e:atI z.cps.toList i=some c) (k:K (.str ⟨#[c]⟩) S):ixD (.str z) (.int i) S K:=⟨c,hz,e,k⟩
theorem c35 {l:List D} {lo hi:Option Int} (k:K (.lst (cutD l lo hi)) S):slD (.lst l) lo hi S K:=k
instance c1y {l:List D} {lo hi:Option Int}:Rdg (slD (.lst l) lo hi S K) (K (.lst (cutD l lo hi)) S):=⟨c35⟩
theorem b2b {l:List D} (h:S p=some (.lst l)) (k:K (.int l.length) S):Bn.len.den [.obj p] S K:=by
 show b1Z [.obj p] S K;unfold b1Z;simp only [b0R h];exact k
theorem b41 {l:List D} (k:K (.int l.length) S):Bn.len.den [.lst l] S K:=k
instance c0b {l:List D}:Rdg (Bn.len.den [.lst l] S K) (K (.int l.length) S):=⟨b41⟩
theorem b83 {l:List D} (k:K (.int l.length) S):Bn.len.den [.tup l] S K:=k
instance c0c {l:List D}:Rdg (Bn.len.den [.tup l] S K) (K (.int l.length) S):=⟨b83⟩
theorem b43 {z:Str} (hz:z.length≤sizeLine) (k:K (.int z.length) S):Bn.len.den [.str z] S K:=⟨hz,k⟩
theorem b7D (k:K (.int (if i < 0 then -i else i)) S):Bn.abs.den [.int i] S K:=k
instance b9o  : Rdg (Bn.abs.den [.int i] S K) (K (.int (if i < 0 then -i else i)) S):=⟨b7D⟩
theorem b1I {y C:Addr} {oe:Obj} {fs:List (Str × D)} {f:Str} (hm:G.m0=some (y,oe)) (hF:a7R G.K C) (hn:NoAttr G.K C f) (e:fs.lookup f=some d) (k:K d S):a8u G f (.exc y oe C fs) S K:=⟨hm,hF,hn,d,e,k⟩
theorem a1W {α:Type} {f:α→D} {l:List α} {k:Nat} {x:α} (h:l[k]?=some x):atI (l.map f) (k:Int)=some (f x):=by
 have hk:k < l.length:=by
  obtain ⟨z,_⟩:=List.getElem?_eq_some_iff.mp h
  exact z
 exact atI_nat (by rw [zbh,h];rfl)
end
section
variable {G:Gs} {δ:DS} {S:SS} {Y:XD'} {F:SE} {a b c e:RE} {r r2:RSs} {s:RS} {d:D}
theorem b5X (h:F.nx δ S):a0c G .nil δ S Y F:=by rw [a0c];exact h
instance b7a  : Rdg (a0c G .nil δ S Y F) (F.nx δ S):=⟨b5X⟩
theorem b2W (h:a0l G s δ S Y { F with nx:=fun δ1 S1=>a0c G r δ1 S1 Y F }):a0c G (.cons s r) δ S Y F:=by rw [a0c];exact h
instance b5H  : Rdg (a0c G (.cons s r) δ S Y F) (a0l G s δ S Y { F with nx:=fun δ1 S1=>a0c G r δ1 S1 Y F }):=⟨b2W⟩
theorem a5H (J:DS→SS→Prop) (h:a0l G s δ S Y { F with nx:=J }) (h2:∀ δ1 S1,J δ1 S1→a0c G r δ1 S1 Y F):a0c G (.cut s r) δ S Y F:=by rw [a0c];exact ⟨J,h,h2⟩
theorem b6a (h:den G.toGm e δ S Y fun _ S1=>F.nx δ S1):a0l G (.exp e) δ S Y F:=by rw [a0l];exact h
instance b7e  : Rdg (a0l G (.exp e) δ S Y F) (den G.toGm e δ S Y fun _ S1=>F.nx δ S1):=⟨b6a⟩
theorem b58 {i:Nat} (h:den G.toGm e δ S Y fun d S1=>F.nx (δ.set i (some d)) S1):a0l G (.asg [i] true e) δ S Y F:=by
 rw [a0l];exact ⟨(fun z=>nomatch z),h⟩
instance b7c {i:Nat}:Rdg (a0l G (.asg [i] true e) δ S Y F) (den G.toGm e δ S Y fun d S1=>F.nx (δ.set i (some d)) S1):=⟨b58⟩
theorem b59 {i:Nat} (h:den G.toGm e δ S Y fun d S1=>F.nx (δ.set i (some d)) S1):a0l G (.asl i e) δ S Y F:=by rw [a0l];exact h
instance b7d {i:Nat}:Rdg (a0l G (.asl i e) δ S Y F) (den G.toGm e δ S Y fun d S1=>F.nx (δ.set i (some d)) S1):=⟨b59⟩
theorem b6f (h:den G.toGm c δ S Y fun z S1=>den G.toGm a δ S1 Y fun x S2=>den G.toGm b δ S2 Y fun y S3=>a7W x y z S3 fun S4=>F.nx δ S4):a0l G (.sti a b c) δ S Y F:=by rw [a0l];exact h
instance b7k  : Rdg (a0l G (.sti a b c) δ S Y F) (den G.toGm c δ S Y fun z S1=>den G.toGm a δ S1 Y fun x S2=>den G.toGm b δ S2 Y fun y S3=>a7W x y z S3 fun S4=>F.nx δ S4):=⟨b6f⟩
theorem b57 {i:Nat} {op:Operator} (hx:δ[i]?=some (some d)) (h:den G.toGm e δ S Y fun y S1=>b0T op d y S1 fun z S2=>F.nx (δ.set i (some z)) S2):a0l G (.agv i op e) δ S Y F:=by rw [a0l];exact ⟨d,hx,h⟩
theorem b56 {op:Operator} (h:den G.toGm a δ S Y fun x S1=>den G.toGm b δ S1 Y fun y S2=>a6h x y S2 fun u S3=>den G.toGm e δ S3 Y fun w S4=>b0T op u w S4 fun z S5=>a7W x y z S5 fun S6=>F.nx δ S6):a0l G (.agi a b op e) δ S Y F:=by rw [a0l];exact h
instance b7b {op:Operator}:Rdg (a0l G (.agi a b op e) δ S Y F) (den G.toGm a δ S Y fun x S1=>den G.toGm b δ S1 Y fun y S2=>a6h x y S2 fun u S3=>den G.toGm e δ S3 Y fun w S4=>b0T op u w S4 fun z S5=>a7W x y z S5 fun S6=>F.nx δ S6):=⟨b56⟩
theorem b6b (h:a0o G.toGm c δ S Y fun k S1=>if k=true then a0c G r δ S1 Y F else a0c G r2 δ S1 Y F):a0l G (.ifs c r r2) δ S Y F:=by rw [a0l];exact h
instance b7f  : Rdg (a0l G (.ifs c r r2) δ S Y F) (a0o G.toGm c δ S Y fun k S1=>if k=true then a0c G r δ S1 Y F else a0c G r2 δ S1 Y F):=⟨b6b⟩
theorem st_ret (h:den G.toGm e δ S Y F.rt):a0l G (.ret e) δ S Y F:=by rw [a0l];exact h
instance b7i  : Rdg (a0l G (.ret e) δ S Y F) (den G.toGm e δ S Y F.rt):=⟨st_ret⟩
theorem b2X (h:F.rt .non S):a0l G .retN δ S Y F:=by rw [a0l];exact h
instance b5I  : Rdg (a0l G .retN δ S Y F) (F.rt .non S):=⟨b2X⟩
theorem b6d (h:F.nx δ S):a0l G .pas δ S Y F:=by rw [a0l];exact h
instance b7h  : Rdg (a0l G .pas δ S Y F) (F.nx δ S):=⟨b6d⟩
theorem a1C {j:Nat} {es:RL} {kd:XKd} (hm:G.m0=none) (hk:G.xk j=some kd) (ha:es.len=kd.ar) (h:a0p G.toGm es δ S Y fun ds S1=>∃ fs,mkX kd ds=some fs∧Y (G.cl j) fs δ S1):a0l G (.rai j es) δ S Y F:=by rw [a0l];exact ⟨hm,kd,hk,ha,h⟩
theorem b0B {p:Addr} {l:List D} {i:Int} {j:Nat} {z:D} {K:SS→Prop} (h:S p=some (.lst l)) (e:ixN l.length i=some j) (k:K (S.set p (.lst (l.set j z)))):a7W (.obj p) (.int i) z S K:=by
 unfold a7W;simp only [h];exact ⟨i,j,rfl,e,k⟩
theorem b8P {p:Addr} {l:List D} {i:Int} {K:DK} (h:S p=some (.lst l)) (e:atI l i=some d) (k:K d S):a6h (.obj p) (.int i) S K:=by
 unfold a6h;simp only [h];exact ⟨i,d,rfl,e,k⟩
theorem b78 {i j:Int} {K:DK} (k:K (.int (i + j)) S):b0T .Add (.int i) (.int j) S K:=k
instance b9q {i j:Int} {K:DK}:Rdg (b0T .Add (.int i) (.int j) S K) (K (.int (i + j)) S):=⟨b78⟩
end
end Sv
namespace Sv
open PySem PySem.Spec PyProof.Rows L2
section
variable {G:Gm} {δ:DS} {S:SS} {Y:XD'} {K:DK}
def LcK (G:Gm) (cell:Bool) (elt:RE) (tg:List Nat) (one:Bool) (c:RO) (own:List Nat) (δ:DS) (K:DK) (ds:List D) (ok:SS→Prop) (S1:SS):Prop :=
 ∀ p,S1 p=none→∃ Iv:Nat→SS→Prop,Iv 0 (S1.set p (.lst []))∧(∀ i S',Iv i S'→i≤ds.length→ok S') ∧
   (∀ i d S',ds[i]?=some d→Iv i S'→a1w tg one d (a6C δ own) S' fun δ2 S2=>a5R G c δ2 S2 noX fun b S3 =>
    if b=true then den G elt δ2 S3 noX fun y S4=>∃ acc,S4 p=some (.lst acc)∧acc.length < sizeLine∧Iv (i + 1) (S4.set p (.lst (acc ++ [y]))) else Iv (i + 1) S3) ∧
   (∀ S',Iv ds.length S'→∃ acc,S' p=some (.lst acc)∧if cell=true then K (.obj p) S' else K (.lst acc) (S'.del p))
theorem c2q {cell:Bool} {elt:RE} {tg:List Nat} {one:Bool} {it:RI} {c:RO} {own:List (Str × Nat)} (hm:G.m0=none) (h:a0P G it δ S Y fun ds ok S1=>LcK G cell elt tg one c (own.map (·.2)) δ K ds ok S1):den G (.lc cell elt tg one it c own) δ S Y K:=by
 rw [den];exact ⟨hm,h⟩
instance c1m {cell:Bool} {elt:RE} {tg:List Nat} {one:Bool} {it:RI} {c:RO} {own:List (Str × Nat)} [M:M0 G.m0]:Rdg (den G (.lc cell elt tg one it c own) δ S Y K) (a0P G it δ S Y fun ds ok S1=>LcK G cell elt tg one c (own.map (·.2)) δ K ds ok S1):=⟨c2q M.out⟩
theorem i_l {e:RE} {KI:List D→(SS→Prop)→SS→Prop} (h:den G e δ S Y fun d S1=>∃ ds,vw S1 d=.lst ds∧KI ds (fun S'=>vw S' d=.lst ds) S1):a0P G (.lst e) δ S Y KI:=by rw [a0P];exact h
instance c3s {e:RE} {KI:List D→(SS→Prop)→SS→Prop}:Rdg (a0P G (.lst e) δ S Y KI) (den G e δ S Y fun d S1=>∃ ds,vw S1 d=.lst ds∧KI ds (fun S'=>vw S' d=.lst ds) S1):=⟨i_l⟩
theorem i_t {e:RE} {KI:List D→(SS→Prop)→SS→Prop} (h:den G e δ S Y fun d S1=>∃ ds,vw S1 d=.tup ds∧KI ds (fun S'=>True) S1):a0P G (.tup e) δ S Y KI:=by rw [a0P];exact h
instance c3u {e:RE} {KI:List D→(SS→Prop)→SS→Prop}:Rdg (a0P G (.tup e) δ S Y KI) (den G e δ S Y fun d S1=>∃ ds,vw S1 d=.tup ds∧KI ds (fun S'=>True) S1):=⟨i_t⟩
theorem c2C {e:RE} {KI:List D→(SS→Prop)→SS→Prop} (h:den G e δ S Y fun d S1=>∃ j,d=.int j∧-(2 ^ 62)≤j∧j < 2 ^ 62∧KI (a6s 0 j.toNat) (fun _=>True) S1):a0P G (.rng1 e) δ S Y KI:=by rw [a0P];exact h
instance c1u {e:RE} {KI:List D→(SS→Prop)→SS→Prop}:Rdg (a0P G (.rng1 e) δ S Y KI) (den G e δ S Y fun d S1=>∃ j,d=.int j∧-(2 ^ 62)≤j∧j < 2 ^ 62∧KI (a6s 0 j.toNat) (fun _=>True) S1):=⟨c2C⟩
theorem a3u {elt:RE} {tg:List Nat} {one:Bool} {c:RO} {own:List Nat} {ds:List D} {ok:SS→Prop} (f:D→D) (g:D→Bool) (hz:ds.length≤sizeLine) (hok:∀ acc p,S p=none→ok (S.set p (.lst acc)))
  (hs:∀ (p:Addr) (i:Nat) (acc:List D) (d:D) (KK:DK) (KN:SS→Prop),ds[i]?=some d→S p=none→(g d=true→KK (f d) (S.set p (.lst acc)))→(g d=false→KN (S.set p (.lst acc))) →
   a1w tg one d (a6C δ own) (S.set p (.lst acc)) fun δ2 S2=>a5R G c δ2 S2 noX fun b S3=>if b=true then den G elt δ2 S3 noX KK else KN S3)
  (hl:K (.lst ((ds.filter g).map f)) S):LcK G false elt tg one c own δ K ds ok S:=by
 intro p hp
 have hcl:∀ i,i < ds.length→(((ds.take i).filter g).map f).length < sizeLine:=fun i hi=>by
  rw [zag]
  have:=zbb g (ds.take i)
  rw [List.length_take] at this
  omega
 refine ⟨fun i S'=>S'=S.set p (.lst (((ds.take i).filter g).map f)),rfl,?_,?_,?_⟩
 ·rintro i S' rfl _
  exact hok _ p hp
 ·rintro i d S' hd rfl
  have hi:i < ds.length:=by
   obtain ⟨z,_⟩:=List.getElem?_eq_some_iff.mp hd
   exact z
  have et:ds.take (i + 1)=ds.take i ++ [d]:=by
   rw [List.take_add_one,hd];rfl
  refine hs p i _ d _ _ hd hp (fun hg=>⟨_,zab,hcl i hi,?_⟩) fun hg=>?_
  ·rw [zac]
   show _=S.set p (.lst (((ds.take (i + 1)).filter g).map f))
   rw [et,List.filter_append,zav]
   simp [hg]
  ·show _=S.set p (.lst (((ds.take (i + 1)).filter g).map f))
   rw [et,List.filter_append,zav]
   simp [hg]
 ·rintro S' rfl
  refine ⟨_,zab,?_⟩
  rw [if_neg zbe,zaf hp,List.take_length]
  exact hl
theorem a9S {KT:Bool→SS→Prop} (k:KT true S):a5R G .nn δ S Y KT:=by rw [a5R];exact k
theorem b8m {KT:Bool→SS→Prop} {e:RE} (k:a0o G e δ S Y KT):a5R G (.ss e) δ S Y KT:=by rw [a5R];exact k
theorem a2G {i:Nat} {d:D} {Q:DS→SS→Prop} (k:Q (δ.set i (some d)) S):a1w [i] true d δ S Q:=k
theorem a1a {a C:Addr} {oe:Obj} {fs:List (Str × D)} {cn:Cn} {b:Bool} {Q:Bool→Prop} (hm:G.m0=some (a,oe)) (hF:a7R G.K C) (hk:PySem.W.kitOne G.K (.ref C) (cn.val G)=some b) (k:Q b) :
  ∃ t b,tyD S (.exc a oe C fs)=some t∧a4S G S (.exc a oe C fs)∧PySem.W.kitOne G.K t (cn.val G)=some b∧Q b:=⟨_,b,rfl,⟨hm,hF⟩,hk,k⟩
end
section
variable {G:Gs} {δ:DS} {S:SS} {Y:XD'} {F:SE}
theorem c0K {tg:List Nat} {one:Bool} {it:RI} {b:RSs} (hm:G.m0=none) (h:a0P G.toGm it δ S Y fun ds ok S1=>∃ Iv:Nat→DS→SS→Prop,Iv 0 δ S1∧(∀ i δ' S',Iv i δ' S'→i≤ds.length→ok S') ∧
   (∀ i d δ' S',ds[i]?=some d→Iv i δ' S'→a1w tg one d δ' S' fun δ2 S2=>a0c G b δ2 S2 Y { F with nx:=Iv (i + 1),ct:=Iv (i + 1),bk:=F.nx })∧(∀ δ' S',Iv ds.length δ' S'→F.nx δ' S')):a0l G (.fr tg one it b) δ S Y F:=by
 rw [a0l];exact ⟨hm,h⟩
instance c0t {tg:List Nat} {one:Bool} {it:RI} {b:RSs} [M:M0 G.m0]:Rdg (a0l G (.fr tg one it b) δ S Y F) (a0P G.toGm it δ S Y fun ds ok S1=>∃ Iv:Nat→DS→SS→Prop,Iv 0 δ S1∧(∀ i δ' S',Iv i δ' S'→i≤ds.length→ok S') ∧
   (∀ i d δ' S',ds[i]?=some d→Iv i δ' S'→a1w tg one d δ' S' fun δ2 S2=>a0c G b δ2 S2 Y { F with nx:=Iv (i + 1),ct:=Iv (i + 1),bk:=F.nx })∧(∀ δ' S',Iv ds.length δ' S'→F.nx δ' S')):=⟨c0K M.out⟩
theorem b6g {b s:RSs} {j i:Nat} (hm:G.m0=none) (h:a0c G b δ S (fun C fs δ' S'=>∃ k,PySem.W.exmOne G.K (.ref C) (.ref (G.cl j))=some k ∧
   (k=true→∀ a oe,a0c (G.suite a oe) s (δ'.set i (some (.exc a oe C fs))) S' noX { F with nx:=fun δ2 S2=>F.nx (δ2.set i none) S2,bk:=fun δ2 S2=>F.bk (δ2.set i none) S2,ct:=fun δ2 S2=>F.ct (δ2.set i none) S2 }) ∧
   (k=false→Y C fs δ' S')) F):a0l G (.tra b j i s) δ S Y F:=by
 rw [a0l];exact ⟨hm,h⟩
instance b7l {b s:RSs} {j i:Nat} [M:M0 G.m0]:Rdg (a0l G (.tra b j i s) δ S Y F) (a0c G b δ S (fun C fs δ' S'=>∃ k,PySem.W.exmOne G.K (.ref C) (.ref (G.cl j))=some k ∧
   (k=true→∀ a oe,a0c (G.suite a oe) s (δ'.set i (some (.exc a oe C fs))) S' noX { F with nx:=fun δ2 S2=>F.nx (δ2.set i none) S2,bk:=fun δ2 S2=>F.bk (δ2.set i none) S2,ct:=fun δ2 S2=>F.ct (δ2.set i none) S2 }) ∧
   (k=false→Y C fs δ' S')) F):=⟨b6g M.out⟩
theorem b6i {b s:RSs} {j:Nat} (hm:G.m0=none) (h:a0c G b δ S (fun C fs δ' S'=>∃ k,PySem.W.exmOne G.K (.ref C) (.ref (G.cl j))=some k∧(k=true→∀ a oe,a0c (G.suite a oe) s δ' S' noX F)∧(k=false→Y C fs δ' S')) F):a0l G (.tro b j s) δ S Y F:=by
 rw [a0l];exact ⟨hm,h⟩
instance b7n {b s:RSs} {j:Nat} [M:M0 G.m0]:Rdg (a0l G (.tro b j s) δ S Y F) (a0c G b δ S (fun C fs δ' S'=>∃ k,PySem.W.exmOne G.K (.ref C) (.ref (G.cl j))=some k∧(k=true→∀ a oe,a0c (G.suite a oe) s δ' S' noX F)∧(k=false→Y C fs δ' S')) F):=⟨b6i M.out⟩
end
end Sv
namespace Sv
open PySem PySem.Spec PyProof.Rows L2
section
variable {G:Gm} {δ:DS} {S:SS} {Y:XD'} {K:DK} {KT:Bool→SS→Prop} {KL:List D→SS→Prop} {KP:List (D × D)→SS→Prop} {KI:List D→(SS→Prop)→SS→Prop} {a b c e:RE} {es:RL} {ps:RQ} {d x y:D} {i j:Int} {p:Addr} {m:Str} {cell:Bool}
theorem b4p (h:a0p G es δ S Y fun ds S1=>Bn.rpr.den ds S1 K):den G (.bi .rpr es) δ S Y K:=a4u trivial h
instance b60  : Rdg (den G (.bi .rpr es) δ S Y K) (a0p G es δ S Y fun ds S1=>Bn.rpr.den ds S1 K):=⟨b4p⟩
theorem b4h (h:a0p G es δ S Y fun ds S1=>Bn.int.den ds S1 K):den G (.bi .int es) δ S Y K:=a4u trivial h
instance b6S  : Rdg (den G (.bi .int es) δ S Y K) (a0p G es δ S Y fun ds S1=>Bn.int.den ds S1 K):=⟨b4h⟩
theorem b4l (h:a0p G es δ S Y fun ds S1=>(Bn.lst cell).den ds S1 K):den G (.bi (.lst cell) es) δ S Y K:=a4u trivial h
instance b6W  : Rdg (den G (.bi (.lst cell) es) δ S Y K) (a0p G es δ S Y fun ds S1=>(Bn.lst cell).den ds S1 K):=⟨b4l⟩
theorem b4v (h:a0p G es δ S Y fun ds S1=>Bn.tup.den ds S1 K):den G (.bi .tup es) δ S Y K:=a4u trivial h
instance b66  : Rdg (den G (.bi .tup es) δ S Y K) (a0p G es δ S Y fun ds S1=>Bn.tup.den ds S1 K):=⟨b4v⟩
theorem b4g (h:a0p G es δ S Y fun ds S1=>(Bn.dic cell).den ds S1 K):den G (.bi (.dic cell) es) δ S Y K:=a4u trivial h
instance b6R  : Rdg (den G (.bi (.dic cell) es) δ S Y K) (a0p G es δ S Y fun ds S1=>(Bn.dic cell).den ds S1 K):=⟨b4g⟩
theorem b4s (hm:G.m0=none) (h:a0p G es δ S Y fun ds S1=>(Bn.srt cell).den ds S1 K):den G (.bi (.srt cell) es) δ S Y K:=a4u hm h
instance b63  [M:M0 G.m0]:Rdg (den G (.bi (.srt cell) es) δ S Y K) (a0p G es δ S Y fun ds S1=>(Bn.srt cell).den ds S1 K):=⟨b4s M.out⟩
theorem b8A {b:Mn} (h:den G a δ S Y fun x S1=>b.rc x S1∧a0p G es δ S1 Y fun ds S2=>b.den x ds S2 K):den G (.mth b a es) δ S Y K:=by rw [den];exact h
instance b9P {b:Mn}:Rdg (den G (.mth b a es) δ S Y K) (den G a δ S Y fun x S1=>b.rc x S1∧a0p G es δ S1 Y fun ds S2=>b.den x ds S2 K):=⟨b8A⟩
theorem c0T {b:Mn} (h:den G a δ S Y fun x S1=>b.rc x S1∧a0p G es δ S1 Y fun ds S2=>b.den x ds S2 fun d S3=>a1c d S3 fun b=>KT b S3):a0o G (.mth b a es) δ S Y KT:=by rw [a0o];exact h
instance c0z {b:Mn}:Rdg (a0o G (.mth b a es) δ S Y KT) (den G a δ S Y fun x S1=>b.rc x S1∧a0p G es δ S1 Y fun ds S2=>b.den x ds S2 fun d S3=>a1c d S3 fun b=>KT b S3):=⟨c0T⟩
theorem a5c {j:Nat} {T:TR} (hT:G.fn G.m0.isSome j=some T) (h:den G a δ S Y fun x S1=>∃ p,omD G j m x S1 p∧a0p G es δ S1 Y fun ds S2=>T G.m0 (.obj p :: ds) S2 K fun C fs S'=>Y C fs δ S'):den G (.om j m a es) δ S Y K:=by rw [den];exact ⟨T,hT,h⟩
theorem a5x {j:Nat} {fs:List (Str × D)} {Q:Addr→Prop} (at_p:S p=some (.ins (G.mc j) fs)) (free:fs.lookup m=none) (q:Q p):∃ p',omD G j m (.obj p) S p'∧Q p':=⟨p,⟨rfl,fs,at_p,free⟩,q⟩
theorem c07 {j:Nat} {T:TR} (hm:G.m0=none) (hT:G.fn false j=some T) (h:a0p G es δ S Y fun ds S1=>∀ p,S1 p=none→T none (.obj p :: ds) (S1.set p (.ins (G.mc j) [])) (fun d S'=>d=.non∧K (.obj p) S') fun C fs S'=>Y C fs δ S'):den G (.mk j es) δ S Y K:=by rw [den];exact ⟨hm,T,hT,h⟩
theorem b8y {kvs:List (Key × D)} (at_p:S p=some (.dic kvs)) (h:den G e δ (S.set p (.loc kvs)) Y fun d S'=>K d (S'.set p (.dic kvs))):den G (.lck e) δ S Y K:=by rw [den];exact ⟨p,kvs,at_p,h⟩
theorem b4f (hm:G.m0=none) (h:a0p G es δ S Y fun ds S1=>(Bn.dcp cell).den ds S1 K):den G (.bi (.dcp cell) es) δ S Y K:=a4u hm h
instance b6Q  [M:M0 G.m0]:Rdg (den G (.bi (.dcp cell) es) δ S Y K) (a0p G es δ S Y fun ds S1=>(Bn.dcp cell).den ds S1 K):=⟨b4f M.out⟩
theorem b4e (hm:G.m0=none) (h:a0p G es δ S Y fun ds S1=>Bn.all.den ds S1 K):den G (.bi .all es) δ S Y K:=a4u hm h
instance b6P  [M:M0 G.m0]:Rdg (den G (.bi .all es) δ S Y K) (a0p G es δ S Y fun ds S1=>Bn.all.den ds S1 K):=⟨b4e M.out⟩
theorem b4u (hm:G.m0=none) (h:a0p G es δ S Y fun ds S1=>Bn.sum.den ds S1 K):den G (.bi .sum es) δ S Y K:=a4u hm h
instance b65  [M:M0 G.m0]:Rdg (den G (.bi .sum es) δ S Y K) (a0p G es δ S Y fun ds S1=>Bn.sum.den ds S1 K):=⟨b4u M.out⟩
theorem b4j (hm:G.m0=none) (h:a0p G es δ S Y fun ds S1=>(Bn.lsk cell).den ds S1 K):den G (.bi (.lsk cell) es) δ S Y K:=a4u hm h
instance b6U  [M:M0 G.m0]:Rdg (den G (.bi (.lsk cell) es) δ S Y K) (a0p G es δ S Y fun ds S1=>(Bn.lsk cell).den ds S1 K):=⟨b4j M.out⟩
theorem b4k (hm:G.m0=none) (h:a0p G es δ S Y fun ds S1=>(Bn.lss cell).den ds S1 K):den G (.bi (.lss cell) es) δ S Y K:=a4u hm h
instance b6V  [M:M0 G.m0]:Rdg (den G (.bi (.lss cell) es) δ S Y K) (a0p G es δ S Y fun ds S1=>(Bn.lss cell).den ds S1 K):=⟨b4k M.out⟩
theorem b4n (hm:G.m0=none) (h:a0p G es δ S Y fun ds S1=>Bn.min.den ds S1 K):den G (.bi .min es) δ S Y K:=a4u hm h
instance b6Y  [M:M0 G.m0]:Rdg (den G (.bi .min es) δ S Y K) (a0p G es δ S Y fun ds S1=>Bn.min.den ds S1 K):=⟨b4n M.out⟩
theorem b4m (hm:G.m0=none) (h:a0p G es δ S Y fun ds S1=>Bn.max.den ds S1 K):den G (.bi .max es) δ S Y K:=a4u hm h
instance b6X  [M:M0 G.m0]:Rdg (den G (.bi .max es) δ S Y K) (a0p G es δ S Y fun ds S1=>Bn.max.den ds S1 K):=⟨b4m M.out⟩
theorem b4t (h:a0p G es δ S Y fun ds S1=>Bn.str.den ds S1 K):den G (.bi .str es) δ S Y K:=a4u trivial h
instance b64  : Rdg (den G (.bi .str es) δ S Y K) (a0p G es δ S Y fun ds S1=>Bn.str.den ds S1 K):=⟨b4t⟩
theorem b2v {ds:List D} (k:K (.lst ds) S):∃ cell,outL cell ds S K:=⟨false,by unfold outL;rw [if_neg zbe];exact k⟩
instance b5F {ds:List D}:Rdg (∃ cell,outL cell ds S K) (K (.lst ds) S):=⟨b2v⟩
theorem b4a (hm:G.m0=none) (h:den G a δ S Y fun x S1=>∃ zs:List Str,vw S1 x=.lst (zs.map D.str)∧(zs.length < 64∨((uniq zs).length < 64∧zs.length < 1000))∧∃ cell,outL cell ((a0i (uniq zs)).map D.str) S1 K):den G (.ofs true a) δ S Y K:=by rw [den];exact ⟨hm,h⟩
instance b6N  [M:M0 G.m0]:Rdg (den G (.ofs true a) δ S Y K) (den G a δ S Y fun x S1=>∃ zs:List Str,vw S1 x=.lst (zs.map D.str)∧(zs.length < 64∨((uniq zs).length < 64∧zs.length < 1000))∧∃ cell,outL cell ((a0i (uniq zs)).map D.str) S1 K):=⟨b4a M.out⟩
theorem b8D (hm:G.m0=none) (h:den G a δ S Y fun x S1=>∃ zs:List Int,vw S1 x=.lst (zs.map D.int)∧zs.length < 64∧∀ ns:List Int,ns.Pairwise (· < ·)→(∀ k,k∈ns↔k∈zs)→K (.lst (ns.map D.int)) S1):den G (.ofi a) δ S Y K:=by rw [den];exact ⟨hm,h⟩
instance b9S  [M:M0 G.m0]:Rdg (den G (.ofi a) δ S Y K) (den G a δ S Y fun x S1=>∃ zs:List Int,vw S1 x=.lst (zs.map D.int)∧zs.length < 64∧∀ ns:List Int,ns.Pairwise (· < ·)→(∀ k,k∈ns↔k∈zs)→K (.lst (ns.map D.int)) S1):=⟨b8D M.out⟩
theorem b3Z (hm:G.m0=none) (h:den G a δ S Y fun x S1=>∃ zs:List Str,vw S1 x=.lst (zs.map D.str)∧(zs.length < 64∨((uniq zs).length < 64∧zs.length < 1000))∧K (.int ((uniq zs).length:Nat)) S1):den G (.ofs false a) δ S Y K:=by rw [den];exact ⟨hm,h⟩
instance b6M  [M:M0 G.m0]:Rdg (den G (.ofs false a) δ S Y K) (den G a δ S Y fun x S1=>∃ zs:List Str,vw S1 x=.lst (zs.map D.str)∧(zs.length < 64∨((uniq zs).length < 64∧zs.length < 1000))∧K (.int ((uniq zs).length:Nat)) S1):=⟨b3Z M.out⟩
theorem b8L (hm:G.m0=none) (h:den G a δ S Y fun x S1=>∃ p kvs,x=.obj p∧S1 p=some (.dic kvs)∧outL cell (kvs.map (·.2)) S1 K):den G (.vls cell a) δ S Y K:=by rw [den];exact ⟨hm,h⟩
instance b90  [M:M0 G.m0]:Rdg (den G (.vls cell a) δ S Y K) (den G a δ S Y fun x S1=>∃ p kvs,x=.obj p∧S1 p=some (.dic kvs)∧outL cell (kvs.map (·.2)) S1 K):=⟨b8L M.out⟩
theorem b8G (h:den G a δ S Y fun x S1=>∃ ds,vw S1 x=.lst ds∧outL cell ds.reverse S1 K):den G (.rev cell a) δ S Y K:=by rw [den];exact h
instance b9V  : Rdg (den G (.rev cell a) δ S Y K) (den G a δ S Y fun x S1=>∃ ds,vw S1 x=.lst ds∧outL cell ds.reverse S1 K):=⟨b8G⟩
theorem b1w (h:∀ p,S p=none→a4U G ps δ (S.set p (.dic [])) Y fun ks S2=>S2 p=some (.dic [])∧∃ kvs,a8K ks=some kvs∧kvs.length≤15∧if cell=true then K (.obj p) (S2.set p (.dic (a07 [] kvs))) else K (.dic (a07 [] kvs)) (S2.del p)):den G (.dct cell ps) δ S Y K:=by rw [den];exact h
theorem a3m (k:∀ p,S p=none→K (.obj p) (S.set p (.dic []))):den G (.dct true .nil) δ S Y K:=b1w fun p free=>by
 rw [a4U]
 exact ⟨zab,[],rfl,by decide,by rw [if_pos rfl,zac];exact k p free⟩
theorem b9f (k:KP [] S):a4U G .nil δ S Y KP:=by rw [a4U];exact k
instance c0o  : Rdg (a4U G .nil δ S Y KP) (KP [] S):=⟨b9f⟩
theorem b5m {kx vx:RE} (h:den G kx δ S Y fun x S1=>den G vx δ S1 Y fun y S2=>a4U G ps δ S2 Y fun r S3=>KP ((x,y) :: r) S3):a4U G (.cons kx vx ps) δ S Y KP:=by rw [a4U];exact h
instance b69 {kx vx:RE}:Rdg (a4U G (.cons kx vx ps) δ S Y KP) (den G kx δ S Y fun x S1=>den G vx δ S1 Y fun y S2=>a4U G ps δ S2 Y fun r S3=>KP ((x,y) :: r) S3):=⟨b5m⟩
theorem i_s (h:den G e δ S Y fun d S1=>∃ z,d=.str z∧KI (a0x z) (fun _=>True) S1):a0P G (.str e) δ S Y KI:=by rw [a0P];exact h
instance c3t  : Rdg (a0P G (.str e) δ S Y KI) (den G e δ S Y fun d S1=>∃ z,d=.str z∧KI (a0x z) (fun _=>True) S1):=⟨i_s⟩
theorem i_k (h:den G e δ S Y fun d S1=>∃ a kvs,d=.obj a∧S1 a=some (.loc kvs)∧KI (kvs.map fun kv=>keyV kv.1) (fun _=>True) S1):a0P G (.keys e) δ S Y KI:=by rw [a0P];exact h
instance c3r  : Rdg (a0P G (.keys e) δ S Y KI) (den G e δ S Y fun d S1=>∃ a kvs,d=.obj a∧S1 a=some (.loc kvs)∧KI (kvs.map fun kv=>keyV kv.1) (fun _=>True) S1):=⟨i_k⟩
theorem c2D {t1 t2:Bool} {a b:RE} (h:den G a δ S Y fun d S1=>den G b δ S1 Y fun d2 S2=>∃ xs ys,d=sqv t1 xs∧d2=sqv t2 ys∧KI (a1S xs ys) (fun _=>True) S2):a0P G (.zip t1 t2 a b) δ S Y KI:=by rw [a0P];exact h
instance c1v {t1 t2:Bool} {a b:RE}:Rdg (a0P G (.zip t1 t2 a b) δ S Y KI) (den G a δ S Y fun d S1=>den G b δ S1 Y fun d2 S2=>∃ xs ys,d=sqv t1 xs∧d2=sqv t2 ys∧KI (a1S xs ys) (fun _=>True) S2):=⟨c2D⟩
theorem c2A (h:den G e δ S Y fun d S1=>∃ ds,d=.tup ds∧KI (a1x ds) (fun _=>True) S1):a0P G (.enumt e) δ S Y KI:=by rw [a0P];exact h
instance c1s  : Rdg (a0P G (.enumt e) δ S Y KI) (den G e δ S Y fun d S1=>∃ ds,d=.tup ds∧KI (a1x ds) (fun _=>True) S1):=⟨c2A⟩
theorem i_e (h:den G e δ S Y fun d S1=>∃ ds,vw S1 d=.lst ds∧KI (a1x ds) (fun S'=>vw S' d=.lst ds) S1):a0P G (.enum e) δ S Y KI:=by rw [a0P];exact h
instance c3q  : Rdg (a0P G (.enum e) δ S Y KI) (den G e δ S Y fun d S1=>∃ ds,vw S1 d=.lst ds∧KI (a1x ds) (fun S'=>vw S' d=.lst ds) S1):=⟨i_e⟩
theorem c2B (h:den G e δ S Y fun d S1=>∃ a kvs,d=.obj a∧S1 a=some (.loc kvs)∧KI (kvs.map fun kv=>.tup [keyV kv.1,kv.2]) (fun _=>True) S1):a0P G (.items e) δ S Y KI:=by rw [a0P];exact h
instance c1t  : Rdg (a0P G (.items e) δ S Y KI) (den G e δ S Y fun d S1=>∃ a kvs,d=.obj a∧S1 a=some (.loc kvs)∧KI (kvs.map fun kv=>.tup [keyV kv.1,kv.2]) (fun _=>True) S1):=⟨c2B⟩
theorem b6k {z:Str} {Q:Str→Prop} (k:Q z):∃ w,D.str z=.str w∧Q w:=⟨z,rfl,k⟩
instance b7o {z:Str} {Q:Str→Prop}:Rdg (∃ w,D.str z=.str w∧Q w) (Q z):=⟨b6k⟩
theorem b3J {ds:List D} (h:S p=some (.lst ds)) (few:ds.length < sizeLine) (k:K .non (S.set p (.lst (ds ++ [d])))):Mn.app.den (.obj p) [d] S K:=⟨ds,h,few,k⟩
theorem b5y {ds:List D} (h:S p=some (.lst ds)):a1U (.obj p) S:=⟨ds,b0R h⟩
theorem c1i {kvs:List (Key × D)} (h:S p=some (.dic kvs)):a4c (.obj p) S:=⟨p,kvs,rfl,h⟩
theorem c1j {z:Str}:a5k (.str z):=⟨z,rfl⟩
theorem b2O {z:Str} {P:Prop} (k:P):Mn.join.rc (.str z) S∧P:=⟨c1j,k⟩
instance b5G {z:Str} {P:Prop}:Rdg (Mn.join.rc (.str z) S∧P) (P):=⟨b2O⟩
theorem b0w {z:Str} {P:Prop} (k:P):Mn.upper.rc (.str z) S∧P:=⟨c1j,k⟩
instance b3j {z:Str} {P:Prop}:Rdg (Mn.upper.rc (.str z) S∧P) (P):=⟨b0w⟩
theorem b4X {z:Str} {zs:List Str} (few:(zs.map (·.length)).sum + zs.length * z.length≤16777216) (k:K (.str (Txt.join z zs)) S):Mn.join.den (.str z) [.lst (zs.map D.str)] S K:=⟨zs,.inl rfl,few,k⟩
theorem b5N {zs:List Str} (few:zs.length < 64) (k:K (.lst ((a0i zs).map D.str)) S):(Bn.srt false).den [.lst (zs.map D.str)] S K:=⟨zs,.inl rfl,few,by unfold outL;rw [if_neg zbe];exact k⟩
theorem a7O {zs:List Str} {kvs:List (Key × D)} (h:S p=some (.dic kvs)) (keys:kvs.map (·.1)=zs.map Sum.inr) (few:zs.length < 64) (k:K (.lst ((a0i zs).map D.str)) S):(Bn.srt false).den [.obj p] S K :=
 ⟨zs,.inr ⟨kvs,b6A h,keys⟩,few,by unfold outL;rw [if_neg zbe];exact k⟩
theorem b85 {ds:List D} (k:K (.lst ds) S):(Bn.lst false).den [.lst ds] S K:=⟨ds,.inl rfl,by rw [if_neg zbe];exact k⟩
instance c0e {ds:List D}:Rdg ((Bn.lst false).den [.lst ds] S K) (K (.lst ds) S):=⟨b85⟩
theorem b8Y {b:Bool} (k:K (.int (if b then 1 else 0)) S):Bn.int.den [.bl b] S K:=k
instance b94 {b:Bool}:Rdg (Bn.int.den [.bl b] S K) (K (.int (if b then 1 else 0)) S):=⟨b8Y⟩
theorem b2a {kvs:List (Key × D)} (h:S p=some (.dic kvs)) (k:K (.int kvs.length) S):Bn.len.den [.obj p] S K:=by
 show b1Z [.obj p] S K;unfold b1Z;simp only [b6A h];exact k
theorem b9n {q:PyData} (h:pdS S d=some q) (s:b1o q) (k:K (.str q.shown) S):Bn.rpr.den [d] S K:=⟨q,.inl ⟨.inl h,s⟩,k⟩
theorem a2F {kvs:List (Key × D)} {key:Key} (h:S p=some (.dic kvs)) (hk:keyD y=some key) (e:valD kvs key=some d) (k:K d S):ixD (.obj p) y S K:=by
 unfold ixD;rw [b6A h];exact ⟨key,d,hk,e,k⟩
theorem c4d {p:Addr} {kvs:List (Key × D)} (h:S p=some (.loc kvs)):vw S (.obj p)=.dic kvs:=by simp only [vw,h]
theorem b80 {kvs:List (Key × D)} {key:Key} (h:S p=some (.loc kvs)) (hk:keyD y=some key) (e:valD kvs key=some d) (k:K d S):ixD (.obj p) y S K:=by
 unfold ixD;rw [c4d h];exact ⟨key,d,hk,e,k⟩
theorem b1O {kvs:List (Key × D)} {key:Key} (h:S p=some (.dic kvs)) (hk:keyD x=some key) (k:K (.bl (valD kvs key).isSome) S):a0G .In x (.obj p) S K:=by
 show a5b false x (.obj p) S K;unfold a5b;rw [b6A h];exact ⟨key,hk,by rw [Bool.false_xor];exact k⟩
theorem b2m {kvs:List (Key × D)} {key:Key} (h:S p=some (.dic kvs)) (hk:keyD x=some key) (k:K (.bl (!(valD kvs key).isSome)) S):a0G .NotIn x (.obj p) S K:=by
 show a5b true x (.obj p) S K;unfold a5b;rw [b6A h];exact ⟨key,hk,by rw [Bool.true_xor];exact k⟩
theorem a2l (z:Str):∀ zs:List Str,((zs.map D.str).any fun w=>D.eqv w (.str z))=decide (z∈zs)
 | []=>rfl
 | w :: zs=>by
  rw [zax,List.any_cons,a2l z zs]
  have e:D.eqv (.str w) (.str z)=decide (w=z):=by
   simp only [D.eqv,D.py,PyData.eqv]
   rw [Bool.eq_iff_iff];simp
  rw [e,Bool.eq_iff_iff]
  simp only [Bool.or_eq_true,zah,zau]
  exact or_congr ⟨Eq.symm,Eq.symm⟩ Iff.rfl
def fine (z:Str):Bool:=PyData.strOk z
theorem a2x (n:Nat):∀ zs:List Str,(∀ z∈zs,fine z=true)→D.okds n (zs.map D.str)=true
 | [],_=>rfl
 | z :: zs,h=>by
  simp only [zax,D.okds,D.okd,zak]
  exact ⟨h z zal,a2x n zs fun w hw=>h w (zao _ hw)⟩
theorem b88 {z:Str} {zs:List Str} (hz:fine z=true) (hs:∀ w∈zs,fine w=true) (k:K (.bl (!decide (z∈zs))) S):a0G .NotIn (.str z) (.lst (zs.map D.str)) S K:=by
 show a5b true (.str z) (.lst (zs.map D.str)) S K
 exact ⟨hz,a2x _ zs hs,by rw [Bool.true_xor,show vw S (.str z)=.str z from rfl,a2l];exact k⟩
theorem flat_strs:∀ zs:List Str,(zs.map D.str).all a1z=true
 | []=>rfl
 | _ :: zs=>by rw [zax,List.all_cons,flat_strs zs];rfl
theorem c2F {z:Str} {zs:List Str} (k:K (.bl (decide (z∈zs))) S):a0G .In (.str z) (.tup (zs.map D.str)) S K:=by
 show a5b false (.str z) (.tup (zs.map D.str)) S K
 exact .inl ⟨rfl,flat_strs zs,by rw [Bool.false_xor,a2l];exact k⟩
instance c1x {z:Str} {zs:List Str}:Rdg (a0G .In (.str z) (.tup (zs.map D.str)) S K) (K (.bl (decide (z∈zs))) S):=⟨c2F⟩
theorem b9a {z:Str} {zs:List Str} (k:K (.bl (!decide (z∈zs))) S):a0G .NotIn (.str z) (.tup (zs.map D.str)) S K:=by
 show a5b true (.str z) (.tup (zs.map D.str)) S K
 exact .inl ⟨rfl,flat_strs zs,by rw [Bool.true_xor,a2l];exact k⟩
instance c0i {z:Str} {zs:List Str}:Rdg (a0G .NotIn (.str z) (.tup (zs.map D.str)) S K) (K (.bl (!decide (z∈zs))) S):=⟨b9a⟩
theorem c2E {z:Str} {c:Nat} (k:K (.bl (decide (c∈z.cps.toList))) S):a0G .In (.str ⟨#[c]⟩) (.str z) S K:=by
 show a5b false (.str ⟨#[c]⟩) (.str z) S K
 exact ⟨c,rfl,by rw [Bool.false_xor];exact k⟩
instance c1w {z:Str} {c:Nat}:Rdg (a0G .In (.str ⟨#[c]⟩) (.str z) S K) (K (.bl (decide (c∈z.cps.toList))) S):=⟨c2E⟩
theorem b89 {z:Str} {c:Nat} (k:K (.bl (!decide (c∈z.cps.toList))) S):a0G .NotIn (.str ⟨#[c]⟩) (.str z) S K:=by
 show a5b true (.str ⟨#[c]⟩) (.str z) S K
 exact ⟨c,rfl,by rw [Bool.true_xor];exact k⟩
instance c0h {z:Str} {c:Nat}:Rdg (a0G .NotIn (.str ⟨#[c]⟩) (.str z) S K) (K (.bl (!decide (c∈z.cps.toList))) S):=⟨b89⟩
theorem b8c {z w:Str} (k:K (.bl (decide (z=w))) S):a0G .Eq (.str z) (.str w) S K:=.inr (.inl ⟨z,w,rfl,rfl,by rw [Bool.false_xor];exact k⟩)
instance b9u {z w:Str}:Rdg (a0G .Eq (.str z) (.str w) S K) (K (.bl (decide (z=w))) S):=⟨b8c⟩
theorem b8l {z w:Str} (k:K (.bl (!decide (z=w))) S):a0G .NotEq (.str z) (.str w) S K:=.inr (.inl ⟨z,w,rfl,rfl,by rw [Bool.true_xor];exact k⟩)
instance b9C {z w:Str}:Rdg (a0G .NotEq (.str z) (.str w) S K) (K (.bl (!decide (z=w))) S):=⟨b8l⟩
theorem b8h (k:K (.bl (isNon x)) S):a0G .Is x .non S K:=by show cIs false x .non S K;unfold cIs;rw [Bool.false_xor];exact k
instance b9y  : Rdg (a0G .Is x .non S K) (K (.bl (isNon x)) S):=⟨b8h⟩
theorem b3O (k:K (.bl (!isNon x)) S):a0G .IsNot x .non S K:=by show cIs true x .non S K;unfold cIs;rw [Bool.true_xor];exact k
instance b6I  : Rdg (a0G .IsNot x .non S K) (K (.bl (!isNon x)) S):=⟨b3O⟩
theorem b8g {a b:Bool} (k:K (.bl (decide (a=b))) S):a0G .Is (.bl a) (.bl b) S K:=by show cIs false (.bl a) (.bl b) S K;unfold cIs;exact ⟨a,rfl,by rw [Bool.false_xor];exact k⟩
instance b9x {a b:Bool}:Rdg (a0G .Is (.bl a) (.bl b) S K) (K (.bl (decide (a=b))) S):=⟨b8g⟩
theorem b3N {a b:Bool} (k:K (.bl (!decide (a=b))) S):a0G .IsNot (.bl a) (.bl b) S K:=by show cIs true (.bl a) (.bl b) S K;unfold cIs;exact ⟨a,rfl,by rw [Bool.true_xor];exact k⟩
instance b6H {a b:Bool}:Rdg (a0G .IsNot (.bl a) (.bl b) S K) (K (.bl (!decide (a=b))) S):=⟨b3N⟩
theorem c2x:∀ zs:List D,D.eqv (.lst zs) (.lst [])=zs.isEmpty
 | []=>rfl
 | _ :: _=>by simp only [D.eqv,D.py,D.pys,PyData.eqv,PyData.eqvAll];rfl
theorem b3L {zs:List Str} (hs:∀ w∈zs,fine w=true) (k:K (.bl (!zs.isEmpty)) S):a0G .NotEq (.lst (zs.map D.str)) (.lst []) S K :=
 b3M (by show D.okd 60 (.lst (zs.map D.str))=true;simp only [D.okd,zak];exact ⟨rfl,a2x _ zs hs⟩) rfl (by
  rw [show vw S (.lst (zs.map D.str))=.lst (zs.map D.str) from rfl,show vw S (.lst [])=.lst [] from rfl,c2x,List.isEmpty_map];exact k)
theorem a0Z {C:Addr} {fs:List (Str × D)} {f:Str} (h:S p=some (.ins C fs)) (cl:Cls G.K C) (na:NoAttr G.K C f) (e:fs.lookup f=some d) (k:K d S):a8u G f (.obj p) S K:=⟨C,fs,d,h,cl,na,e,k⟩
theorem a3s {cn:Cn} {t:Value} {b:Bool} {Q:Bool→Prop} (ht:tyD S d=some t) (ok:a4S G S d) (hk:PySem.W.kitOne G.K t (cn.val G)=some b) (k:Q b):∃ t b,tyD S d=some t∧a4S G S d∧PySem.W.kitOne G.K t (cn.val G)=some b∧Q b:=⟨t,b,ht,ok,hk,k⟩
end
section
variable {G:Gs} {δ:DS} {S:SS} {Y:XD'} {F:SE} {a b c e:RE} {es:RL} {s:RS} {d x y:D} {p:Addr} {K:SS→Prop}
theorem b6h {i j l:Nat} (hm:G.m0=none) (h:a0p G.toGm es δ S Y fun ds S1=>∃ u v w,ds=[u,v,w]∧F.nx (((δ.set i (some u)).set j (some v)).set l (some w)) S1):a0l G (.tri i j l es) δ S Y F:=by rw [a0l];exact ⟨hm,h⟩
instance b7m {i j l:Nat} [M:M0 G.m0]:Rdg (a0l G (.tri i j l es) δ S Y F) (a0p G.toGm es δ S Y fun ds S1=>∃ u v w,ds=[u,v,w]∧F.nx (((δ.set i (some u)).set j (some v)).set l (some w)) S1):=⟨b6h M.out⟩
theorem b0K {a b c:D} {Q:D→D→D→Prop} (k:Q a b c):∃ u v w,[a,b,c]=[u,v,w]∧Q u v w:=⟨a,b,c,rfl,k⟩
instance b3k {a b c:D} {Q:D→D→D→Prop}:Rdg (∃ u v w,[a,b,c]=[u,v,w]∧Q u v w) (Q a b c):=⟨b0K⟩
theorem b6c {i j:Nat} (hm:G.m0=none) (h:a0p G.toGm es δ S Y fun ds S1=>∃ v w,ds=[v,w]∧F.nx ((δ.set i (some v)).set j (some w)) S1):a0l G (.par i j es) δ S Y F:=by rw [a0l];exact ⟨hm,h⟩
instance b7g {i j:Nat} [M:M0 G.m0]:Rdg (a0l G (.par i j es) δ S Y F) (a0p G.toGm es δ S Y fun ds S1=>∃ v w,ds=[v,w]∧F.nx ((δ.set i (some v)).set j (some w)) S1):=⟨b6c M.out⟩
theorem b6u {Q:D→D→Prop} (k:Q x y):∃ v w,[x,y]=[v,w]∧Q v w:=⟨x,y,rfl,k⟩
instance b7s {Q:D→D→Prop}:Rdg (∃ v w,[x,y]=[v,w]∧Q v w) (Q x y):=⟨b6u⟩
theorem b1c {kvs:List (Key × D)} (at_p:S p=some (.dic kvs)) (h:a0l G s δ (S.set p (.loc kvs)) Y (F.unlock p kvs)):a0l G (.lck s) δ S Y F:=by rw [a0l];exact ⟨p,kvs,at_p,h⟩
theorem b6e {f:Str} (h:den G.toGm c δ S Y fun z S1=>den G.toGm a δ S1 Y fun x S2=>∃ p C fs,x=.obj p∧S2 p=some (.ins C fs)∧Cls G.K C∧NoAttr G.K C f∧fs.length < 1000∧F.nx δ (S2.set p (.ins C (a5A f z fs)))):a0l G (.stf a f c) δ S Y F:=by rw [a0l];exact h
instance b7j {f:Str}:Rdg (a0l G (.stf a f c) δ S Y F) (den G.toGm c δ S Y fun z S1=>den G.toGm a δ S1 Y fun x S2=>∃ p C fs,x=.obj p∧S2 p=some (.ins C fs)∧Cls G.K C∧NoAttr G.K C f∧fs.length < 1000∧F.nx δ (S2.set p (.ins C (a5A f z fs)))):=⟨b6e⟩
theorem a5F {kvs:List (Key × D)} {key:Key} {z:D} (h:S p=some (.dic kvs)) (hk:keyD y=some key) (few:kvs.length < sizeLine) (k:K (S.set p (.dic (putD kvs key z)))):a7W (.obj p) y z S K:=by
 unfold a7W;simp only [h];exact ⟨key,hk,few,k⟩
end
def a0B {α:Type} (f:α→D) (l:List (Str × α)):List (Key × D):=l.map fun q=>(.inr q.1,f q.2)
section
variable {α:Type} {f:α→D} {l:List (Str × α)} {z:Str}
theorem a8V:(a0B f l).map (·.1)=(l.map (·.1)).map Sum.inr:=by unfold a0B;rw [zat,zat];rfl
theorem a0D:(a0B f l).length=l.length:=by unfold a0B;rw [zag]
theorem a0O:valD (a0B f l) (.inr z)=(l.lookup z).map f:=by
 unfold valD a0B
 induction l with
 | nil=>rfl
 | cons q l ih =>
  obtain ⟨k,v⟩:=q
  rw [zax,List.find?_cons,List.lookup_cons]
  by_cases e:k=z
  ·subst e
   simp
  ·have e1:(z == k)=false:=by rw [beq_eq_false_iff_ne];exact fun h=>e h.symm
   have e2:decide ((Sum.inr k:Key)=Sum.inr z)=false:=by simpa using e
   rw [e1,e2]
   exact ih
theorem lookup_some:(l.lookup z).isSome=decide (z∈l.map (·.1)):=by
 induction l with
 | nil=>rfl
 | cons q l ih =>
  obtain ⟨k,v⟩:=q
  rw [List.lookup_cons,zax]
  by_cases e:z=k
  ·subst e;simp
  ·have e1:(z == k)=false:=by rw [beq_eq_false_iff_ne];exact e
   rw [e1]
   simp only [ih]
   simp [e]
theorem a8W:(valD (a0B f l) (.inr z)).isSome=decide (z∈l.map (·.1)):=by
 rw [a0O,Option.isSome_map,lookup_some]
theorem a06 {v:α} (h:z∉l.map (·.1)):putD (a0B f l) (.inr z) (f v)=a0B f (l ++ [(z,v)]):=by
 unfold putD
 rw [if_neg ?_]
 ·unfold a0B;rw [zav];rfl
 ·intro e
  apply h
  rw [List.any_eq_true] at e
  obtain ⟨q,hq,e⟩:=e
  unfold a0B at hq
  obtain ⟨r,hr,rfl⟩:=zan.mp hq
  have e:r.1=z:=by simpa using e
  rw [← e]
  exact zan.mpr ⟨r,hr,rfl⟩
end
end Sv
namespace Sv
open PySem PySem.Spec PyProof.Rows L2
structure Plain (x:D):Prop where
 ok:D.okd 60 x=true
 data:pdD x=some x.py
 shows:b1o x.py
mutual
def smD:Nat→D→Bool
 | _,.non=>true | _,.bl _=>true | _,.int i=>decide (i.natAbs < 10 ^ 12)
 | _,.str z=>decide (z.cps.size≤64) && fine z
 | n,.lst ds=>decide (0 < n) && (decide (ds.length≤64) && b3m (n - 1) ds)
 | n,.tup ds=>decide (0 < n) && (decide (ds.length≤64) && b3m (n - 1) ds)
 | _,_=>false
def b3m:Nat→List D→Bool
 | _,[]=>true | n,d :: ds=>smD n d && b3m n ds
end
def b3K:Nat→Nat
 | 0=>64 | n + 1=>64 * (b3K n + 1)
theorem a93 {z:Str} (h:fine z=true):(z.cps.toList.all fun c=>decide (c < 16 ^ 8))=true:=by
 unfold fine PyData.strOk at h
 rw [← Array.all_toList,List.all_eq_true] at h
 rw [List.all_eq_true]
 intro c hc
 have:=of_decide_eq_true (h c hc)
 exact zbg (by omega)
structure Fits (n:Nat) (d:D):Prop where
 data:pdD d=some d.py
 short:d.py.leavesShort 13=true
 bulk:d.py.bulk≤b3K n
 show_:d.py.showable=true
 dict:d.py.hasDict=false
 deep:d.py.depth≤n
 ok:D.okd n d=true
structure FitsAll (n:Nat) (ds:List D):Prop where
 data:a9L ds=some (D.pys ds)
 short:PyData.leavesShortAll 13 (D.pys ds)=true
 bulk:PyData.bulkAll (D.pys ds)≤ds.length * (b3K n + 1)
 show_:PyData.showableAll (D.pys ds)=true
 dict:PyData.hasDictAll (D.pys ds)=false
 deep:PyData.depthAll (D.pys ds)≤n
 ok:D.okds n ds=true
theorem b5d {l b:Nat} (h:l≤64):l * b≤64 * b:=Nat.mul_le_mul_right b h
mutual
theorem a1N:∀ (d:D) (n:Nat),smD n d=true→Fits n d
 | .non,n,_=>⟨rfl,by simp [D.py,PyData.leavesShort],by simp [D.py,PyData.bulk],by simp [D.py,PyData.showable],by simp [D.py,PyData.hasDict],by simp [D.py,PyData.depth],by simp [D.okd]⟩
 | .bl b,n,_=>⟨rfl,by simp [D.py,PyData.leavesShort],by simp [D.py,PyData.bulk],by simp [D.py,PyData.showable],by simp [D.py,PyData.hasDict],by simp [D.py,PyData.depth],by simp [D.okd]⟩
 | .int i,n,h=>by
  simp only [smD,zah] at h
  refine ⟨rfl,?_,by simp [D.py,PyData.bulk],?_,by simp [D.py,PyData.hasDict],by simp [D.py,PyData.depth],by simp [D.okd]⟩
  ·simp only [D.py,PyData.leavesShort,zah]
   rw [PyData.shown_int]
   have:=PySem.int_text_length_le10 (a:=i) (k:=12) (by decide) h
   rw [PySem.ofString_length]
   exact this
  ·simp only [D.py,PyData.showable,zah]
   exact log2_small (Nat.lt_of_lt_of_le (Nat.lt_trans h (by decide:10 ^ 12 < 2 ^ 64)) (Nat.pow_le_pow_right (by decide) (by decide)))
 | .str z,n,h=>by
  simp only [smD,zak,zah] at h
  refine ⟨rfl,by simp only [D.py,PyData.leavesShort];exact a93 h.2,?_,by simp [D.py,PyData.showable],by simp [D.py,PyData.hasDict],by simp [D.py,PyData.depth],by simp only [D.okd];exact h.2⟩
  simp only [D.py,PyData.bulk]
  have:64≤b3K n:=by
   cases n with
   | zero=>exact Nat.le_refl _
   | succ n=>unfold b3K;omega
  omega
 | .lst ds,n,h=>by
  simp only [smD,zak,zah] at h
  obtain ⟨m,rfl⟩:∃ m,n=m + 1:=⟨n - 1,by omega⟩
  have a:=a3J ds m h.2.2
  refine ⟨by simp only [pdD,D.py,a.data,Option.map_some],by simp only [D.py,PyData.leavesShort];exact a.short,?_,by simp only [D.py,PyData.showable];exact a.show_,by simp only [D.py,PyData.hasDict];exact a.dict,by simp only [D.py,PyData.depth];have:=a.deep;omega,by simp only [D.okd,zak,zah];exact ⟨by omega,a.ok⟩⟩
  simp only [D.py,PyData.bulk]
  exact Nat.le_trans a.bulk (b5d h.2.1)
 | .tup ds,n,h=>by
  simp only [smD,zak,zah] at h
  obtain ⟨m,rfl⟩:∃ m,n=m + 1:=⟨n - 1,by omega⟩
  have a:=a3J ds m h.2.2
  refine ⟨by simp only [pdD,D.py,a.data,Option.map_some],by simp only [D.py,PyData.leavesShort];exact a.short,?_,by simp only [D.py,PyData.showable];exact a.show_,by simp only [D.py,PyData.hasDict];exact a.dict,by simp only [D.py,PyData.depth];have:=a.deep;omega,by simp only [D.okd,zak,zah];exact ⟨by omega,a.ok⟩⟩
  simp only [D.py,PyData.bulk]
  exact Nat.le_trans a.bulk (b5d h.2.1)
 | .dic _,_,h=>by simp [smD] at h
 | .obj _,_,h=>by simp [smD] at h
 | .exc _ _ _ _,_,h=>by simp [smD] at h
 | .err _ _ _ _,_,h=>by simp [smD] at h
theorem a3J:∀ (ds:List D) (n:Nat),b3m n ds=true→FitsAll n ds
 | [],n,_=>⟨rfl,rfl,by simp [D.pys,PyData.bulkAll],rfl,rfl,by simp [D.pys,PyData.depthAll],by simp [D.okds]⟩
 | d :: ds,n,h=>by
  simp only [b3m,zak] at h
  have a:=a1N d n h.1
  have b:=a3J ds n h.2
  refine ⟨by simp only [a9L,D.pys,a.data,b.data],by simp only [D.pys,PyData.leavesShortAll,a.short,b.short];rfl,?_,by simp only [D.pys,PyData.showableAll,a.show_,b.show_];rfl,by simp only [D.pys,PyData.hasDictAll,a.dict,b.dict];rfl,by simp only [D.pys,PyData.depthAll];have:=a.deep;have:=b.deep;omega,by simp only [D.okds,a.ok,b.ok];rfl⟩
  simp only [D.pys,PyData.bulkAll,zaz,Nat.add_mul,Nat.one_mul]
  have:=a.bulk
  have:=b.bulk
  simp only [Nat.mul_add,Nat.mul_one] at *
  omega
end
mutual
theorem a82:∀ (d:D) (n m:Nat),n≤m→D.okd n d=true→D.okd m d=true
 | .non,n,m,_,h=>by simp [D.okd]
 | .bl _,n,m,_,h=>by simp [D.okd]
 | .int _,n,m,_,h=>by simp [D.okd]
 | .str _,n,m,_,h=>by simpa [D.okd] using h
 | .lst ds,n,m,l,h=>by
  simp only [D.okd,zak,zah] at h ⊢
  exact ⟨by omega,a6o ds (n - 1) (m - 1) (by omega) h.2⟩
 | .tup ds,n,m,l,h=>by
  simp only [D.okd,zak,zah] at h ⊢
  exact ⟨by omega,a6o ds (n - 1) (m - 1) (by omega) h.2⟩
 | .dic _,n,m,_,h=>by simp [D.okd] at h
 | .obj _,n,m,_,h=>by simp [D.okd] at h
 | .exc _ _ _ _,n,m,_,h=>by simp [D.okd] at h
 | .err _ _ _ _,n,m,_,h=>by simp [D.okd] at h
theorem a6o:∀ (ds:List D) (n m:Nat),n≤m→D.okds n ds=true→D.okds m ds=true
 | [],n,m,_,_=>by simp [D.okds]
 | d :: ds,n,m,l,h=>by
  simp only [D.okds,zak] at h ⊢
  exact ⟨a82 d n m l h.1,a6o ds n m l h.2⟩
end
theorem b0t {d:D} (h:smD 2 d=true):Plain d:=by
 have f:=a1N d 2 h
 refine ⟨a82 d 2 60 (by decide) f.ok,f.data,⟨f.show_,f.dict,PySem.PyData.shown_fits_bulk (B:=13) (by decide) (by decide) f.short (Nat.le_trans f.bulk (by decide)),Nat.le_trans f.deep (by decide)⟩⟩
theorem Plain.self {d:D} (h:Plain d):D.eqv d d=true:=by
 unfold D.eqv
 exact SeqAt.eqv_refl _ (a3z d 60 h.ok).1
theorem Plain.vw {d:D} (h:Plain d) (S:SS):vw S d=d:=by
 cases d with
 | obj a=>have:=h.ok;simp [D.okd] at this
 | _=>rfl
theorem Plain.pdS {d:D} (h:Plain d) (S:SS):pdS S d=some d.py:=by
 have e:=h.data
 cases d with
 | obj a=>have:=h.ok;simp [D.okd] at this
 | _=>exact e
theorem a9R {x:D} {S:SS} {K:DK} (h:Plain x) (k:K (.bl true) S):a0G .Eq x x S K:=b8d (by rw [h.vw];exact h.ok) (by rw [h.vw];exact h.ok) (by rw [h.vw,h.self];exact k)
theorem b5B {x:D} {S:SS} {K:DK} (h:Plain x) (k:K (.str x.py.shown) S):Bn.rpr.den [x] S K:=b9n (h.pdS S) h.shows k
end Sv
namespace Sv
open PySem PySem.Spec PyProof.Rows L2
section
variable {G:Gm} {δ:DS} {S:SS} {Y:XD'} {K:DK} {a:RE} {es:RL} {cell:Bool} {k:Nat}
theorem b8H (h:den G a δ S Y fun x S1=>∃ ds,vw S1 x=.lst ds∧K (.lst (ev2 k ds)) S1):den G (.sl2 k a) δ S Y K:=by rw [den];exact h
instance b9W  : Rdg (den G (.sl2 k a) δ S Y K) (den G a δ S Y fun x S1=>∃ ds,vw S1 x=.lst ds∧K (.lst (ev2 k ds)) S1):=⟨b8H⟩
theorem b4o (hm:G.m0=none) (h:a0p G es δ S Y fun ds S1=>Bn.mnl.den ds S1 K):den G (.bi .mnl es) δ S Y K:=a4u hm h
instance b6Z  [M:M0 G.m0]:Rdg (den G (.bi .mnl es) δ S Y K) (a0p G es δ S Y fun ds S1=>Bn.mnl.den ds S1 K):=⟨b4o M.out⟩
theorem b4q (hm:G.m0=none) (h:a0p G es δ S Y fun ds S1=>(Bn.srl cell).den ds S1 K):den G (.bi (.srl cell) es) δ S Y K:=a4u hm h
instance b61  [M:M0 G.m0]:Rdg (den G (.bi (.srl cell) es) δ S Y K) (a0p G es δ S Y fun ds S1=>(Bn.srl cell).den ds S1 K):=⟨b4q M.out⟩
theorem b4r (hm:G.m0=none) (h:a0p G es δ S Y fun ds S1=>(Bn.srp cell).den ds S1 K):den G (.bi (.srp cell) es) δ S Y K:=a4u hm h
instance b62  [M:M0 G.m0]:Rdg (den G (.bi (.srp cell) es) δ S Y K) (a0p G es δ S Y fun ds S1=>(Bn.srp cell).den ds S1 K):=⟨b4r M.out⟩
theorem c0F {z b:Str} {P:Prop} (k:P):Mn.spl.rc (.str z) S∧P:=⟨⟨z,rfl⟩,k⟩
instance c0s {z:Str} {P:Prop}:Rdg (Mn.spl.rc (.str z) S∧P) (P):=⟨c0F (b:=z)⟩
end
section
end
mutual
def lfD:Nat→D→Bool
 | _,.non=>true | _,.bl _=>true | _,.int i=>decide (i.natAbs < 10 ^ 12)
 | _,.str z=>decide (z.cps.size≤64) && fine z
 | n,.lst ds=>decide (0 < n) && a9J (n - 1) ds
 | n,.tup ds=>decide (0 < n) && a9J (n - 1) ds
 | _,_=>false
def a9J:Nat→List D→Bool
 | _,[]=>true | n,d :: ds=>lfD n d && a9J n ds
end
structure Fit (n:Nat) (d:D):Prop where
 data:pdD d=some d.py
 short:d.py.leavesShort 13=true
 show_:d.py.showable=true
 dict:d.py.hasDict=false
 deep:d.py.depth≤n
 ok:D.okd n d=true
structure b3r (n:Nat) (ds:List D):Prop where
 data:a9L ds=some (D.pys ds)
 short:PyData.leavesShortAll 13 (D.pys ds)=true
 show_:PyData.showableAll (D.pys ds)=true
 dict:PyData.hasDictAll (D.pys ds)=false
 deep:PyData.depthAll (D.pys ds)≤n
 ok:D.okds n ds=true
theorem Fits.fit {n:Nat} {d:D} (h:Fits n d):Fit n d:=⟨h.data,h.short,h.show_,h.dict,h.deep,h.ok⟩
mutual
theorem a8P:∀ (d:D) (n:Nat),lfD n d=true→Fit n d
 | .non,n,_=>(a1N .non n rfl).fit
 | .bl b,n,_=>(a1N (.bl b) n (by simp [smD])).fit
 | .int i,n,h=>(a1N (.int i) n (by simpa only [smD,lfD] using h)).fit
 | .str z,n,h=>(a1N (.str z) n (by simpa only [smD,lfD] using h)).fit
 | .lst ds,n,h=>by
  simp only [lfD,zak,zah] at h
  obtain ⟨m,rfl⟩:∃ m,n=m + 1:=⟨n - 1,by omega⟩
  have a:=a4C ds m h.2
  refine ⟨by simp only [pdD,D.py,a.data,Option.map_some],by simp only [D.py,PyData.leavesShort];exact a.short,by simp only [D.py,PyData.showable];exact a.show_,by simp only [D.py,PyData.hasDict];exact a.dict,by simp only [D.py,PyData.depth];have:=a.deep;omega,by simp only [D.okd,zak,zah];exact ⟨by omega,a.ok⟩⟩
 | .tup ds,n,h=>by
  simp only [lfD,zak,zah] at h
  obtain ⟨m,rfl⟩:∃ m,n=m + 1:=⟨n - 1,by omega⟩
  have a:=a4C ds m h.2
  refine ⟨by simp only [pdD,D.py,a.data,Option.map_some],by simp only [D.py,PyData.leavesShort];exact a.short,by simp only [D.py,PyData.showable];exact a.show_,by simp only [D.py,PyData.hasDict];exact a.dict,by simp only [D.py,PyData.depth];have:=a.deep;omega,by simp only [D.okd,zak,zah];exact ⟨by omega,a.ok⟩⟩
 | .dic _,_,h=>by simp [lfD] at h
 | .obj _,_,h=>by simp [lfD] at h
 | .exc _ _ _ _,_,h=>by simp [lfD] at h
 | .err _ _ _ _,_,h=>by simp [lfD] at h
theorem a4C:∀ (ds:List D) (n:Nat),a9J n ds=true→b3r n ds
 | [],n,_=>⟨rfl,rfl,rfl,rfl,by simp [D.pys,PyData.depthAll],by simp [D.okds]⟩
 | d :: ds,n,h=>by
  simp only [a9J,zak] at h
  have a:=a8P d n h.1
  have b:=a4C ds n h.2
  exact ⟨by simp only [a9L,D.pys,a.data,b.data],by simp only [D.pys,PyData.leavesShortAll,a.short,b.short];rfl,by simp only [D.pys,PyData.showableAll,a.show_,b.show_];rfl,by simp only [D.pys,PyData.hasDictAll,a.dict,b.dict];rfl,by simp only [D.pys,PyData.depthAll];have:=a.deep;have:=b.deep;omega,by simp only [D.okds,a.ok,b.ok];rfl⟩
end
theorem a2y {d:D} (h:lfD 20 d=true) (hb:d.py.bulk≤266304):Plain d:=by
 have f:=a8P d 20 h
 exact ⟨a82 d 20 60 (by decide) f.ok,f.data,⟨f.show_,f.dict,PySem.PyData.shown_fits_bulk (B:=13) (by decide) (by decide) f.short (Nat.le_trans hb (by decide)),Nat.le_trans f.deep (by decide)⟩⟩
theorem a3c {n:Nat}:∀ {ds:List D},(∀ d∈ds,lfD n d=true)→a9J n ds=true
 | [],_=>rfl
 | d :: ds,h=>by
  simp only [a9J,zak]
  exact ⟨h d zal,a3c fun e he=>h e (zao _ he)⟩
theorem a4r {b:Nat}:∀ {ds:List D},(∀ d∈ds,d.py.bulk≤b)→PyData.bulkAll (D.pys ds)≤ds.length * (b + 1)
 | [],_=>by simp [D.pys,PyData.bulkAll]
 | d :: ds,h=>by
  have h1:=h d zal
  have h2:=a4r (b:=b) fun e he=>h e (zao _ he)
  simp only [D.pys,PyData.bulkAll,zaz,Nat.add_mul,Nat.one_mul]
  simp only [Nat.mul_add,Nat.mul_one] at *
  omega
theorem a4s {b:Nat} {ds:List D} (h:∀ d∈ds,d.py.bulk≤b):(D.lst ds).py.bulk≤ds.length * (b + 1):=by
 simp only [D.py,PyData.bulk];exact a4r h
theorem a6J {b:Nat} {ds:List D} (h:∀ d∈ds,d.py.bulk≤b):(D.tup ds).py.bulk≤ds.length * (b + 1):=by
 simp only [D.py,PyData.bulk];exact a4r h
end Sv
noncomputable section
namespace Sv
open PySem PySem.Spec PyProof.Rows L2 PySem.W PySem.Calls
theorem a4a {β:Type} {f:{α:Type}→β→(β→α)→α} (h:∀ {α:Type} (b:β) (k:β→α),f b k=k b) {α:Type}:∀ (l:List β) (k:List β→α),foL f l k=k l
 | [],k=>rfl
 | a :: r,k=>by
  show f a (fun a=>foL f r fun r=>k (a :: r))=_
  rw [h,a4a h]
theorem a1T {α:Type} (n:Nat) (k:Nat→α):foN n k=k n:=HandSHeadRun.frNat_eq n k
theorem b4H {α:Type} (s:Str) (k:Str→α):foS s k=k s:=by
 obtain ⟨⟨l⟩⟩:=s
 exact a4a a1T l _
theorem a2q {α:Type} (v:Value) (k:Value→α):foV v k=k v:=by
 cases v with
 | ref a=>exact a1T a _
 | str s t=>exact b4H s fun s=>k (.str s t)
 | _=>rfl
theorem b4E {α:Type} (e:DictEntry) (k:DictEntry→α):foE e k=k e:=by
 obtain ⟨h,x,v⟩:=e
 show foV x (fun x=>foV v fun v=>k ⟨h,x,v⟩)=_
 rw [a2q,a2q]
theorem b4D {α:Type} (d:Data) (k:Data→α):foD d k=k d:=by
 cases d with
 | dict es n=>obtain ⟨es⟩:=es;exact a4a b4E es _
 | seq es n=>obtain ⟨es⟩:=es;exact a4a a2q es _
 | fields es=>obtain ⟨es⟩:=es;exact a4a a2q es _
 | cls c =>
  obtain ⟨a1,a2,mro,ns,a3,a4,a5,a6,a7,a8,a9⟩:=c
  show foL foV mro (fun mro=>foN ns fun ns=>k (.cls ⟨a1,a2,mro,ns,a3,a4,a5,a6,a7,a8,a9⟩))=_
  rw [a4a a2q,a1T]
 | func f =>
  obtain ⟨n1,n2,n3,n4,n5,n6,n7,n8,n9,n10,n11,n12,n13,n14,n15⟩:=f
  show foN n6 (fun n6=>foV n8 fun n8=>foV n9 fun n9=>foV n13 fun n13=>foN n15 fun n15=>k (.func ⟨n1,n2,n3,n4,n5,n6,n7,n8,n9,n10,n11,n12,n13,n14,n15⟩))=_
  rw [a1T,a2q,a2q,a2q,a1T]
 | _=>rfl
theorem b4F {α:Type} (o:Obj) (k:Obj→α):foO o k=k o:=by
 obtain ⟨c,d,dt,sl⟩:=o
 show foV c (fun c=>foD dt fun dt=>k ⟨c,d,dt,sl⟩)=_
 rw [a2q,b4D]
def b6q (o:Obj):Option (List (Nat × DictEntry)):=match o with
 | ⟨_,_,.dict es _,_⟩=>some (es.toList.map fun e=>(a2n e,e))
 | _=>none
def b6p (K:Frag):Tab:=K.map fun p=>(p.1,b6q p.2)
theorem b0Y {α:Type}:∀ (es:List DictEntry) (k:List (Nat × DictEntry)→α),foC es k=k (es.map fun e=>(a2n e,e))
 | [],k=>rfl
 | e :: r,k=>by
  show foN (a2n e) (fun n=>foC r fun r=>k ((n,e) :: r))=_
  rw [a1T,b0Y r] <;> rfl
theorem b4G {α:Type} (o:Obj) (k:Option (List (Nat × DictEntry))→α):foP o k=k (b6q o):=by
 obtain ⟨c,d,dt,sl⟩:=o
 cases dt with
 | dict es n=>obtain ⟨es⟩:=es;exact b0Y es _
 | _=>rfl
theorem a6O {α:Type}:∀ (K:Frag) (k:Tab→α),foT K k=k (b6p K)
 | [],k=>rfl
 | (a,o) :: r,k=>by
  show foP o (fun t=>foT r fun T=>k ((a,t) :: T))=_
  rw [b4G,a6O r] <;> rfl
theorem a0N {β:Type} {a:Nat}:∀ l:List (Nat × β),a01 l a=l.lookup a
 | []=>rfl
 | (b,v) :: r=>by
  show (match Nat.beq a b with
   | true=>some v
   | false=>a01 r a)=(match a == b with
   | true=>some v
   | false=>r.lookup a)
  have e:(a == b)=Nat.beq a b:=by
   cases h:Nat.beq a b with
   | true=>exact beq_iff_eq.mpr (Nat.eq_of_beq_eq_true h)
   | false=>exact beq_eq_false_iff_ne.mpr (Nat.ne_of_beq_eq_false h)
  rw [e,a0N r]
theorem a9V {e:DictEntry} {x:Str} (h:e.key.isStr x=true):a2n e=codeS x:=by
 obtain ⟨hh,k,v⟩:=e
 cases k with
 | str s t =>
  have e:s=x:=eq_of_beq (show (s == x)=true from h)
  subst e
  rfl
 | _=>cases h
theorem a4y {x:Str}:∀ es:List DictEntry,a6d (codeS x) x (es.map fun e=>(a2n e,e))=es.find? (·.key.isStr x)
 | []=>rfl
 | e :: r=>by
  show (match Nat.beq (a2n e) (codeS x) with
   | true=>(match e.key.isStr x with
    | true=>some e
    | false=>a6d (codeS x) x (r.map fun e=>(a2n e,e)))
   | false=>a6d (codeS x) x (r.map fun e=>(a2n e,e)))=(match e.key.isStr x with
   | true=>some e
   | false=>r.find? (·.key.isStr x))
  rw [a4y r]
  cases h:Nat.beq (a2n e) (codeS x) with
  | true=>rfl
  | false =>
   cases q:e.key.isStr x with
   | false=>rfl
   | true=>exact absurd (a9V q) (Nat.ne_of_beq_eq_false h)
def nsT (T:Tab) (ns:Addr) (x:Str):Option (Option Value):=match a01 T ns with
 | some (some l)=>foN (codeS x) fun c=>(match a6d c x l with
  | some e=>some (some e.val)
  | none=>if l.any (fun p=>p.2.refKey) then none else some none)
 | _=>none
theorem a3O {a:Addr}:∀ K:Frag,(b6p K).lookup a=(K.lookup a).map b6q
 | []=>rfl
 | (b,o) :: r=>by
  show (match a == b with
   | true=>some (b6q o)
   | false=>(b6p r).lookup a)=Option.map b6q (match a == b with
   | true=>some o
   | false=>r.lookup a)
  cases a == b with
  | true=>rfl
  | false=>exact a3O r
theorem b5f {K:Frag}:nsT (b6p K)=nsIn K:=by
 funext ns x
 unfold nsT nsIn
 rw [a0N,a3O]
 cases K.lookup ns with
 | none=>rfl
 | some o =>
  obtain ⟨c,d,dt,sl⟩:=o
  cases dt with
  | dict es n =>
   show foN (codeS x) (fun c=>(match a6d c x (es.toList.map fun e=>(a2n e,e)) with
    | some e=>some (some e.val)
    | none=>if (es.toList.map fun e=>(a2n e,e)).any (fun p=>p.2.refKey) then none else some none))=_
   rw [a1T,a4y,List.any_map] <;> rfl
  | _=>rfl
section
variable (K:Frag) (N:Addr→Str→Option (Option Value))
def gaN (x:Str):Addr:=match N mainGlobals x with
 | some (some (.ref a))=>a
 | _=>0
def b5l (name:Str):Value→Option (Option Value)
 | .type n=>some (fastBuiltinOwn n name)
 | .ref a=>(match a01 K a with
   | some ⟨_,_,.cls cd,_⟩=>N cd.ns name
   | _=>none)
 | _=>some none
def a3l (name:Str):List Value→Option (Option Value)
 | []=>some none
 | c :: r=>match b5l K N name c with
  | some (some v)=>some (some v)
  | some none=>a3l name r
  | none=>none
def a3U (t:Value) (name:Str):Option (Option Value):=match t with
 | .type n=>fastLookup n name
 | .ref a=>(match a01 K a with
   | some ⟨_,_,.cls cd,_⟩=>a3l K N name cd.mro
   | _=>none)
 | _=>none
def maN (C:Addr) (m:Str):Addr:=match a3U K N (.ref C) m with
 | some (some (.ref a))=>a
 | _=>0
def b3h (p:Str × Option Str):Addr:=match p.2 with
 | none=>gaN N p.1
 | some m=>maN K N (gaN N p.1) m
def a8I (a:Addr):Bool:=match a01 K a with
 | some ⟨_,_,.func _,_⟩=>true
 | some ⟨_,_,.cls _,_⟩=>specialIn K (.ref a) "__call__" == some (some (.builtin "type.__call__"))
 | _=>false
def codeN (cd:Value) (q:Str):Bool:=match cd with
 | .ref c=>(match a01 K c with
   | some ⟨_,_,.fields vs,_⟩=>(match vs.toList with | _ :: .str n _ :: _=>n == q | _=>false)
   | _=>false)
 | _=>false
theorem a6T (a:Addr):a8I K a=keepIn K (.ref a):=by
 unfold a8I keepIn
 rw [a0N] <;> rfl
theorem a9W (cd:Value) (q:Str):codeN K cd q=codeIn K cd q:=by
 unfold codeN codeIn
 cases cd with
 | ref c =>
  show (match a01 K c with
   | some ⟨_,_,.fields vs,_⟩=>(match vs.toList with | _ :: .str n _ :: _=>n == q | _=>false)
   | _=>false)=_
  rw [a0N] <;> rfl
 | _=>rfl
def a96 (a:Addr):Bool:=(a01 K a).map (·.cls) == some (.type "function")
theorem a97 (a:Addr):a96 K a=isFn K (.ref a):=by
 unfold a96 isFn typeIn
 rw [a0N] <;> rfl
def faN:He.Fa→Bool
 | .glo x=>He.eqO (N mainGlobals x) (some (some (.ref (gaN N x))))
 | .free x=>He.eqO (N mainGlobals x) (some none)
 | .int x i=>(match N mainGlobals x with
  | some (some (.int j _))=>decide (j=i)
  | _=>false)
 | .str x z=>(match N mainGlobals x with
  | some (some (.str y _))=>decide (y=z)
  | _=>false)
 | .cls x=>plainGet K (gaN N x) Str.empty && (hasDictIn K (gaN N x) && (plainOver K (gaN N x) && He.eqO (findIn K (.ref (gaN N x)) "__setattr__") (some (some (.builtin "object.__setattr__")))))
 | .noat x f=>He.eqO (a3U K N (.ref (gaN N x)) f) (some none)
 | .meth x m=>He.eqO (a3U K N (.ref (gaN N x)) m) (some (some (.ref (maN K N (gaN N x) m)))) && (a96 K (maN K N (gaN N x) m) && a8I K (maN K N (gaN N x) m))
 | f=>f.ok K
def okA (d:He.DefD) (a:Addr):Bool:=a8I K a && (match a01 K a with
 | some ⟨_,_,.func fd,_⟩=>codeN K fd.code d.qual && (He.dflB K fd.defaults (d.dvs K) && He.kwdB K fd.kwdefaults (d.kws K))
 | _=>false)
def fnA (a:Addr):He.FnW:=match a01 K a with
 | some ⟨_,_,.func fd,_⟩=>some (fd.name,fd.qualname,fd.params,fd.body,fd.scope,fd.globals,fd.closure,fd.builtins)
 | _=>none
def fxN:Fx→Bool
 | .oex x=>b6G K (gaN N x)
 | .ini x=>He.eqO (a3U K N (.ref (gaN N x)) "__init__") (some (some (.ref (maN K N (gaN N x) "__init__")))) && decide (typeIn K (.ref (maN K N (gaN N x) "__init__"))=some (.type "function"))
 | .nov x f=>He.eqO (a3U K N (.ref (gaN N x)) f) (some none)
 | .kit x y b=>decide (kitOne K (.ref (gaN N x)) (.ref (gaN N y))=some b)
 | .kitT x n b=>decide (kitOne K (.ref (gaN N x)) (.type n)=some b)
 | .sib xs=>xs.all fun x=>xs.all fun y=>decide (kitOne K (.ref (gaN N x)) (.ref (gaN N y))=some (decide (x=y)))
 | .veT xs n=>xs.all fun x=>decide (kitOne K (.ref (gaN N x)) (.type n)=some true)
 | .exA xs y=>xs.all fun x=>decide (exmOne K (.ref (gaN N x)) (.ref (gaN N y))=some true)
 | f=>f.ok K
def b2r (fa:List He.Fa) (fn:List He.DefD) (fx:List Fx):AlX:=(((fa.all fun f=>faN K N f) && fn.all fun d=>okA K d (b3h K N d.at_),fn.map fun d=>fnA K (b3h K N d.at_)),fx.all fun f=>fxN K N f)
end
section
variable {K:Frag}
theorem b2E {name:Str} (c:Value):b5l K (nsIn K) name c=ownIn K name c:=by
 unfold b5l ownIn
 cases c with
 | ref a =>
  show (match a01 K a with
   | some ⟨_,_,.cls cd,_⟩=>nsIn K cd.ns name
   | _=>none)=_
  rw [a0N] <;> rfl
 | _=>rfl
theorem a4Z {name:Str}:∀ l:List Value,a3l K (nsIn K) name l=alongIn K name l
 | []=>rfl
 | c :: r=>by
  show (match b5l K (nsIn K) name c with
   | some (some v)=>some (some v)
   | some none=>a3l K (nsIn K) name r
   | none=>none)=(match ownIn K name c with
   | some (some v)=>some (some v)
   | some none=>alongIn K name r
   | none=>none)
  rw [a4Z r,b2E] <;> rfl
theorem a1G:a3U K (nsIn K)=findIn K:=by
 funext t name
 unfold a3U findIn
 cases t with
 | ref a =>
  show (match a01 K a with
   | some ⟨_,_,.cls cd,_⟩=>a3l K (nsIn K) name cd.mro
   | _=>none)=_
  rw [a0N]
  simp only [a4Z]
  rfl
 | _=>rfl
theorem a6Z:maN K (nsIn K)=He.ma K:=by
 funext C m
 unfold maN He.ma
 rw [a1G] <;> rfl
theorem b1H:b3h K (nsIn K)=He.fAd K:=by
 funext p
 unfold b3h He.fAd
 rw [a6Z] <;> rfl
theorem b4y:faN K (nsIn K)=He.Fa.ok K:=by
 funext f
 cases f with
 | meth x m =>
  show (He.eqO (a3U K (nsIn K) (.ref (gaN (nsIn K) x)) m) (some (some (.ref (maN K (nsIn K) (gaN (nsIn K) x) m)))) && (a96 K (maN K (nsIn K) (gaN (nsIn K) x) m) && a8I K (maN K (nsIn K) (gaN (nsIn K) x) m)))=_
  rw [a1G,a6Z,a97,a6T] <;> rfl
 | _=>first | rfl | (unfold faN He.Fa.ok;rw [a1G];rfl) | (unfold faN He.Fa.ok;rw [a1G,a6Z];rfl)
theorem b4I:fxN K (nsIn K)=Fx.ok K:=by
 funext f
 cases f <;> first | rfl | (unfold fxN Fx.ok;rw [a1G];rfl) | (unfold fxN Fx.ok;rw [a1G,a6Z];rfl)
theorem b5i (d:He.DefD):okA K d (He.fAd K d.at_)=d.ok K:=by
 unfold okA He.DefD.ok
 rw [a6T,a0N]
 simp only [a9W]
 rfl
theorem b4C (p:Str × Option Str):fnA K (He.fAd K p)=He.fnW K p:=by
 unfold fnA He.fnW
 rw [a0N] <;> rfl
theorem a6n {fa:List He.Fa} {fn:List He.DefD} {fx:List Fx}:b2r K (nsIn K) fa fn fx=obsX fa fn fx K:=by
 unfold b2r
 rw [b4y,b4I,b1H]
 simp only [b5i,b4C]
 rfl
end
section
end
section
variable {g:Addr→Option Obj}
def a2h (g:Addr→Option Obj) (K:Frag):Prop:=∀ p∈K,g p.1=some p.2
theorem a5W:∀ (l:List Addr) (m:Nat) (f:List Addr),∃ m' f',∀ {α:Type} (k:Nat→List Addr→α),a9I l m f k=k m' f'
 | [],m,f=>⟨m,f,fun _=>rfl⟩
 | a :: r,m,f=>by
  cases e:Nat.beq (Nat.land (Nat.shiftRight m a) 1) 0 with
  | true =>
   obtain ⟨m',f',h⟩:=a5W r (Nat.lor m (Nat.shiftLeft 1 a)) (a :: f)
   refine ⟨m',f',fun {α} k=>?_⟩
   show (match Nat.beq (Nat.land (Nat.shiftRight m a) 1) 0 with
    | true=>foN a fun a=>foN (Nat.lor m (Nat.shiftLeft 1 a)) fun m=>a9I r m (a :: f) k
    | false=>a9I r m f k)=k m' f'
   rw [e]
   show foN a (fun a=>foN (Nat.lor m (Nat.shiftLeft 1 a)) fun m=>a9I r m (a :: f) k)=k m' f'
   rw [a1T,a1T]
   exact h k
  | false =>
   obtain ⟨m',f',h⟩:=a5W r m f
   refine ⟨m',f',fun {α} k=>?_⟩
   show (match Nat.beq (Nat.land (Nat.shiftRight m a) 1) 0 with
    | true=>foN a fun a=>foN (Nat.lor m (Nat.shiftLeft 1 a)) fun m=>a9I r m (a :: f) k
    | false=>a9I r m f k)=k m' f'
   rw [e]
   exact h k
theorem a2C:∀ (l:List Addr) (m:Nat) (f:List Addr) (K:Frag),a2h g K→∃ m' f' K',a2h g K'∧∀ {α:Type} (k:Nat→List Addr→Frag→α),a2Q g l m f K k=k m' f' K'
 | [],m,f,K,h=>⟨m,f,K,h,fun _=>rfl⟩
 | a :: r,m,f,K,h=>by
  cases e:g a with
  | none =>
   obtain ⟨m',f',K',h',q⟩:=a2C r m f K h
   refine ⟨m',f',K',h',fun {α} k=>?_⟩
   show (match g a with
    | none=>a2Q g r m f K k
    | some o=>foO o fun o=>a9I (He.refsD o) m f fun m f=>a2Q g r m f ((a,o) :: K) k)=k m' f' K'
   rw [e]
   exact q k
  | some o =>
   obtain ⟨m1,f1,e1⟩:=a5W (He.refsD o) m f
   obtain ⟨m',f',K',h',q⟩:=a2C r m1 f1 ((a,o) :: K) fun p hp=>by
    rcases zau.mp hp with rfl | hp
    ·exact e
    ·exact h p hp
   refine ⟨m',f',K',h',fun {α} k=>?_⟩
   show (match g a with
    | none=>a2Q g r m f K k
    | some o=>foO o fun o=>a9I (He.refsD o) m f fun m f=>a2Q g r m f ((a,o) :: K) k)=k m' f' K'
   rw [e]
   show foO o (fun o=>a9I (He.refsD o) m f fun m f=>a2Q g r m f ((a,o) :: K) k)=k m' f' K'
   rw [b4F,e1]
   exact q k
theorem a5D:∀ (n:Nat) (l:List Addr) (m:Nat) (K:Frag),a2h g K→∃ K',a2h g K'∧∀ {α:Type} (k:Frag→α),a9h g n l m K k=k K'
 | 0,l,m,K,h=>by
  obtain ⟨_,_,K',h',e⟩:=a2C l m [] K h
  exact ⟨K',h',fun k=>e _⟩
 | n + 1,l,m,K,h=>by
  obtain ⟨m',f',K',h',e⟩:=a2C l m [] K h
  obtain ⟨K2,h2,e2⟩:=a5D n f' m' K' h'
  exact ⟨K2,h2,fun k=>(e _).trans (e2 k)⟩
theorem a4H (n:Nat):∃ K,a2h g K∧∀ {α:Type} (k:Frag→α),b0p g n k=k K:=by
 obtain ⟨K,h,e⟩:=a5D n [mainGlobals,cStatics] (Nat.lor (Nat.shiftLeft 1 mainGlobals) (Nat.shiftLeft 1 cStatics)) [] (show a2h g [] from fun p hp=>nomatch hp)
 exact ⟨K.reverse,fun p hp=>h p (List.mem_reverse.mp hp),fun k=>e fun K=>k K.reverse⟩
theorem a2h.at_ {K:Frag} {a:Addr} {o:Obj}:a2h g K→K.lookup a=some o→g a=some o:=by
 induction K with
 | nil=>intro _ e;cases e
 | cons p r ih =>
  obtain ⟨b,ob⟩:=p
  intro h e
  have e2:(match a == b with
   | true=>some ob
   | false=>r.lookup a)=some o:=e
  cases q:(a == b) with
  | true =>
   rw [q] at e2
   cases e2
   rw [beq_iff_eq.mp q]
   exact h _ zal
  | false =>
   rw [q] at e2
   exact ih (fun p hp=>h p (zao _ hp)) e2
end
def a7V (n:Nat) (fa:List He.Fa) (fn:List He.DefD) (fx:List Fx) (g:Addr→Option Obj):AlX:=b0p g n fun K=>foT K fun T=>b2r K (nsT T) fa fn fx
def b4K (n:Nat) (fa:List He.Fa) (fn:List He.DefD) (fx:List Fx):Hook where
 α:=AlX
 obs:=fun s=>a7V n fa fn fx s.heap.get?
 val:=fun _=>(He.valD fn,true)
 says:=fun _ h=>∃ K:Frag,K.In h∧SaysX fa fn fx K
 of:=fun _ s e=>by
  obtain ⟨K,h,q⟩:=a4H (g:=s.heap.get?) n
  refine ⟨K,fun a o x=>h.at_ x,?_⟩
  have e2:a7V n fa fn fx s.heap.get?=(He.valD fn,true):=e
  unfold a7V at e2
  rw [q,a6O,b5f,a6n] at e2
  exact e2
 keeps:=fun _ _ _ ⟨K,hK,c⟩ k=>⟨K,Frag.In.keeps hK k,c⟩
theorem b2p {n:Nat} {fa:List He.Fa} {fn:List He.DefD} {fx:List Fx} {g:Addr→Option Obj} {s:Shared} (h:∀ a,g a=s.heap.get? a):a7V n fa fn fx g=(b4K n fa fn fx).obs s:=by
 have e:g=s.heap.get?:=funext h
 rw [e] <;> rfl
section
open HandSHeadRun
theorem b0m {n:Nat} {fa1 fa2:List He.Fa} {fn1 fn2:List He.DefD} {fx1 fx2:List Fx} {g:Addr→Option Obj} (h1:a7V n fa1 fn1 fx1 g=(He.valD fn1,true)) (h2:a7V n fa2 fn2 fx2 g=(He.valD fn2,true)) :
  a7V n (fa1 ++ fa2) (fn1 ++ fn2) (fx1 ++ fx2) g=(He.valD (fn1 ++ fn2),true):=by
 obtain ⟨K,_,q⟩:=a4H (g:=g) n
 unfold a7V at h1 h2 ⊢
 rw [q,a6O] at h1 h2 ⊢
 unfold b2r He.valD at h1 h2 ⊢
 simp only [Prod.mk.injEq,zak] at h1 h2
 obtain ⟨⟨⟨a1,b1⟩,c1⟩,d1⟩:=h1
 obtain ⟨⟨⟨a2,b2⟩,c2⟩,d2⟩:=h2
 rw [List.all_append,List.all_append,List.all_append,zav,zav,a1,a2,b1,b2,c1,c2,d1,d2]
 rfl
def b7y (r:OpenRow) (q:Program) (M:Nat) (loose:List Str) (w:World):Prop :=
 ∀ os:OsState,(endF (stepQ (denQ tabQ) r.prog w) M r.prog w os).map (fun s=>(looksF r.prog (boot_heap w.params) s.abs,seenQ q loose (importedModules r.prog.main.body) (fun s=>xlAt q [] s && recOk r.toRowW.records s) s.abs))=some (true,openGood q loose)
def b3g (r:OpenRow) (M n:Nat) (fa:List He.Fa) (fn:List He.DefD) (fx:List Fx) (w:World):Prop :=
 ∀ os:OsState,(endF (stepQ (denQ tabQ) r.prog w) M r.prog w os).map (fun s=>a7V n fa fn fx (getT s))=some (He.valD fn,true)
variable {r:OpenRow} {q:Program} {M n:Nat} {loose:List Str} {w:World} {fa:List He.Fa} {fn:List He.DefD} {fx:List Fx}
theorem b3g.join (k1 k2 k3:Nat) (h1:b3g r M n (fa.take k1) (fn.take k2) (fx.take k3) w) (h2:b3g r M n (fa.drop k1) (fn.drop k2) (fx.drop k3) w):b3g r M n fa fn fx w:=by
 intro os
 have a:=h1 os
 have b:=h2 os
 cases e:endF (stepQ (denQ tabQ) r.prog w) M r.prog w os with
 | none =>
  rw [e] at a
  cases a
 | some s =>
  rw [e] at a b
  have c:=b0m (Option.some.inj a) (Option.some.inj b)
  simp only [List.take_append_drop] at c
  exact congrArg some c
end
end Sv
noncomputable section
namespace Sv
open PySem PySem.Spec PyProof.Rows L2 PySem.W PySem.Calls
def Cw.d:Cw→D
 | .str z=>.str z
 | .tup zs=>.tup (zs.map D.str)
def a5w (n:Nat) (ts:List TbW) (g:Addr→Option Obj):Bool × List (Option (List (Option (Str × Int)))):=b0p g n fun K=>a2b ts K
section
open HandSHeadRun
def b7z (r:OpenRow) (M n:Nat) (ts:List TbW) (w:World):Prop :=
 ∀ os:OsState,(endF (stepQ (denQ tabQ) r.prog w) M r.prog w os).map (fun s=>a5w n ts (getT s))=some (a1s ts w)
variable {r:OpenRow} {q:Program} {M n:Nat} {loose:List Str} {w:World} {fa:List He.Fa} {fn:List He.DefD} {fx:List Fx} {ts:List TbW}
end
end Sv
namespace Sv
open PySem PySem.Spec PyProof.Rows L2 PySem.W PySem.Calls
section
open HandSHeadRun
def b6j (L:Nat) (t:Thread):Bool:=match t.cur with
 | .ask _=>Nat.beq t.pos.line L
 | _=>false
section
variable (st:SharedT→Thread→Option (SharedT × Thread)) (n0:Nat) (ann:Option Value) (L:Nat)
def goP:Nat→SharedT→Thread→Option (Nat × SharedT × Thread)
 | 0,_,_=>none
 | m + 1,s,t=>match b6j L t with
  | true=>some (m + 1,s,t)
  | false=>match through t with
   | true=>none
   | false=>match stepOk n0 ann t with
    | false=>none
    | true=>match st s t with
     | some (s',t')=>frS s' fun s'=>goP m s' t'
     | none=>none
theorem b0Z:∀ {m:Nat} {s:SharedT} {t:Thread} {k:Nat} {s1:SharedT} {t1:Thread},goP st n0 ann L m s t=some (k,s1,t1)→goF st n0 ann m s t=goF st n0 ann k s1 t1
 | 0,_,_,_,_,_,h=>by cases h
 | m + 1,s,t,k,s1,t1,h=>by
  unfold goP at h
  cases h1:b6j L t with
  | true =>
   rw [h1] at h
   cases h
   rfl
  | false =>
   rw [h1] at h
   cases h2:through t with
   | true =>
    rw [h2] at h
    cases h
   | false =>
    rw [h2] at h
    cases h3:stepOk n0 ann t with
    | false =>
     rw [h3] at h
     cases h
    | true =>
     rw [h3] at h
     cases h4:st s t with
     | none =>
      rw [h4] at h
      cases h
     | some r =>
      obtain ⟨s',t'⟩:=r
      rw [h4] at h
      have h5:(frS s' fun s'=>goP st n0 ann L m s' t')=some (k,s1,t1):=h
      rw [frS_eq] at h5
      have e:=b0Z h5
      show (match through t with
       | true=>some s
       | false=>match stepOk n0 ann t with
        | false=>none
        | true=>match st s t with
         | some (s',t')=>frS s' fun s'=>goF st n0 ann m s' t'
         | none=>none)=_
      rw [h2,h3,h4]
      show (frS s' fun s'=>goF st n0 ann m s' t')=_
      rw [frS_eq]
      exact e
end
noncomputable def b3n {α:Type} (st:SharedT→Thread→Option (SharedT × Thread)) (stb:Bool→SharedT→Thread→Option (SharedT × Thread)) (L M:Nat) (p:Program) (w:World) (os:OsState) (f:SharedT→α):Option (Option α × Option α) :=
 match putAll (boot_heap w.params).objs.toList .nil 0 with
 | some (t,n)=>frNat n fun n0=>match goP st n0 (bootAnn w) L M (bootT w os (t,n0)) (topStub p) with
  | some (k,s1,t1)=>some ((goF (stb false) n0 (bootAnn w) k s1 t1).map f,(goF (stb true) n0 (bootAnn w) k s1 t1).map f)
  | none=>none
 | none=>none
theorem a5K {α:Type} {den:Code→Sem Fin} {L M:Nat} {p:Program} {w:World} {os:OsState} {f:SharedT→α} {x:α}
  (h:b3n (stepQ den p w) (fun b=>stepQ den p (w.withFollow ROW b)) L M p w os f=some (some x,some x)):(endF (stepQ den p w) M p w os).map f=some x:=by
 unfold b3n at h
 unfold endF
 cases e:putAll (boot_heap w.params).objs.toList .nil 0 with
 | none =>
  rw [e] at h
  cases h
 | some r =>
  obtain ⟨t,n⟩:=r
  rw [e] at h
  dsimp only at h ⊢
  rw [frNat_eq] at h ⊢
  cases e2:goP (stepQ den p w) n (bootAnn w) L M (bootT w os (t,n)) (topStub p) with
  | none =>
   rw [e2] at h
   cases h
  | some r =>
   obtain ⟨k,s1,t1⟩:=r
   rw [e2] at h
   rw [b0Z _ _ _ _ e2]
   have h:=Option.some.inj h
   obtain ⟨ha,hb⟩:=Prod.mk.inj h
   have hw:=World.withFollow_self w ROW
   cases q:w.params.followText ROW with
   | false =>
    rw [q] at hw
    rw [hw] at ha
    exact ha
   | true =>
    rw [q] at hw
    rw [hw] at hb
    exact hb
variable {r:OpenRow} {q:Program} {L M n:Nat} {loose:List Str} {w:World} {fa:List He.Fa} {fn:List He.DefD} {fx:List Fx} {ts:List TbW}
def b3v (r:OpenRow) (q:Program) (L M:Nat) (loose:List Str) (w:World):Prop :=
 ∀ os:OsState,b3n (stepQ (denQ tabQ) r.prog w) (fun b=>stepQ (denQ tabQ) r.prog (w.withFollow ROW b)) L M r.prog w os (fun s=>(looksF r.prog (boot_heap w.params) s.abs,seenQ q loose (importedModules r.prog.main.body) (fun s=>xlAt q [] s && recOk r.toRowW.records s) s.abs))=some (some (true,openGood q loose),some (true,openGood q loose))
def b3w (r:OpenRow) (L M n:Nat) (fa:List He.Fa) (fn:List He.DefD) (fx:List Fx) (w:World):Prop :=
 ∀ os:OsState,b3n (stepQ (denQ tabQ) r.prog w) (fun b=>stepQ (denQ tabQ) r.prog (w.withFollow ROW b)) L M r.prog w os (fun s=>a7V n fa fn fx (getT s))=some (some (He.valD fn,true),some (He.valD fn,true))
def b3x (r:OpenRow) (L M n:Nat) (ts:List TbW) (w:World):Prop :=
 ∀ os:OsState,b3n (stepQ (denQ tabQ) r.prog w) (fun b=>stepQ (denQ tabQ) r.prog (w.withFollow ROW b)) L M r.prog w os (fun s=>a5w n ts (getT s))=some (some (a1s ts w),some (a1s ts w))
def a9N (r:OpenRow) (q:Program) (L M:Nat) (loose:List Str) (n:Nat) (ts:List TbW) (w:World):Prop :=
 ∀ os:OsState,b3n (stepQ (denQ tabQ) r.prog w) (fun b=>stepQ (denQ tabQ) r.prog (w.withFollow ROW b)) L M r.prog w os (fun s=>((looksF r.prog (boot_heap w.params) s.abs,seenQ q loose (importedModules r.prog.main.body) (fun s=>xlAt q [] s && recOk r.toRowW.records s) s.abs),a5w n ts (getT s)))=some (some ((true,openGood q loose),a1s ts w),some ((true,openGood q loose),a1s ts w))
theorem a6k {α β γ:Type} {o:Option γ} {f:γ→α} {g:γ→β} {x:α} {y:β} (h:o.map (fun s=>(f s,g s))=some (x,y)):o.map f=some x∧o.map g=some y:=by
 cases o with
 | none=>cases h
 | some s =>
  have h:=Option.some.inj h
  obtain ⟨h1,h2⟩:=Prod.mk.inj h
  exact ⟨congrArg some h1,congrArg some h2⟩
theorem a9N.a (h:a9N r q L M loose n ts w):b7y r q M loose w:=fun os=>(a6k (a5K (h os))).1
theorem a9N.d (h:a9N r q L M loose n ts w):b7z r M n ts w:=fun os=>(a6k (a5K (h os))).2
theorem b3v.a (h:b3v r q L M loose w):b7y r q M loose w:=fun os=>a5K (h os)
theorem b3w.b (h:b3w r L M n fa fn fx w):b3g r M n fa fn fx w:=fun os=>a5K (h os)
theorem b3x.d (h:b3x r L M n ts w):b7z r M n ts w:=fun os=>a5K (h os)
def b1j (r:OpenRow) (q:Program) (M:Nat) (loose:List Str) (n:Nat) (ts:List TbW) (b:Bool) (w:World):Prop :=
 ∀ os:OsState,(endF (stepQ (denQ tabQ) r.prog (w.withFollow ROW b)) M r.prog w os).map (fun s=>((looksF r.prog (boot_heap w.params) s.abs,seenQ q loose (importedModules r.prog.main.body) (fun s=>xlAt q [] s && recOk r.toRowW.records s) s.abs),a5w n ts (getT s)))=some ((true,openGood q loose),a1s ts w)
def b1i (r:OpenRow) (M n:Nat) (fa:List He.Fa) (fn:List He.DefD) (fx:List Fx) (b:Bool) (w:World):Prop :=
 ∀ os:OsState,(endF (stepQ (denQ tabQ) r.prog (w.withFollow ROW b)) M r.prog w os).map (fun s=>a7V n fa fn fx (getT s))=some (He.valD fn,true)
theorem a5y {p:Program} {w:World} {M:Nat} {os:OsState} {α:Type} {f:SharedT→α} {x:α} (h:∀ b,(endF (stepQ (denQ tabQ) p (w.withFollow ROW b)) M p w os).map f=some x):(endF (stepQ (denQ tabQ) p w) M p w os).map f=some x:=by
 have h:=h (w.params.followText ROW)
 rw [World.withFollow_self w ROW] at h
 exact h
theorem b1j.ad (h0:b1j r q M loose n ts false w) (h1:b1j r q M loose n ts true w):b7y r q M loose w∧b7z r M n ts w:=by
 have k:∀ os:OsState,_:=fun os=>a6k (a5y (f:=fun s=>((looksF r.prog (boot_heap w.params) s.abs,seenQ q loose (importedModules r.prog.main.body) (fun s=>xlAt q [] s && recOk r.toRowW.records s) s.abs),a5w n ts (getT s))) fun b=>match b with
  | false=>h0 os
  | true=>h1 os)
 exact ⟨fun os=>(k os).1,fun os=>(k os).2⟩
theorem b1i.b (h0:b1i r M n fa fn fx false w) (h1:b1i r M n fa fn fx true w):b3g r M n fa fn fx w:=fun os=>a5y fun b=>match b with
 | false=>h0 os
 | true=>h1 os
end
end Sv
noncomputable section
namespace Sv
open PySem PySem.Spec PyProof.Rows L2 PySem.W PySem.Calls
section
end
theorem b2q {L:Addr→Option Obj} {K:Frag} {N:Addr→Str→Option (Option Value)} {fa:List He.Fa} {fn:List He.DefD} {fx:List Fx} (h:L=a01 K):b9d L K N fa fn fx=b2r K N fa fn fx:=by
 subst h
 have e0:∀ (x:Str),gaM N x=gaN N x:=fun _=>rfl
 have e1:∀ name l,a6H (a01 K) N name l=a3l K N name l:=fun name l=>by
  induction l with
  | nil=>rfl
  | cons c r ih =>
   show (match c1h (a01 K) N name c with
    | some (some v)=>some (some v)
    | some none=>a6H (a01 K) N name r
    | none=>none)=(match b5l K N name c with
    | some (some v)=>some (some v)
    | some none=>a3l K N name r
    | none=>none)
   rw [ih]
   rfl
 have e2:a6e (a01 K) N=a3U K N:=by
  funext t name
  unfold a6e a3U
  cases t with
  | ref a =>
   simp only [e1]
   try rfl
  | _=>rfl
 have e3:maM (a01 K) N=maN K N:=by
  funext C m
  unfold maM maN
  rw [e2]
  try rfl
 have e4:b6F (a01 K) N=b3h K N:=by
  funext p
  unfold b6F b3h
  rw [e3]
  try rfl
 have e5:faM (a01 K) K N=faN K N:=by
  funext f
  cases f <;> first | rfl | (unfold faM faN;rw [e2];rfl) | (unfold faM faN;rw [e2,e3];rfl)
 have e6:fxM (a01 K) K N=fxN K N:=by
  funext f
  cases f <;> first | rfl | (unfold fxM fxN;rw [e2];rfl) | (unfold fxM fxN;rw [e2,e3];rfl)
 unfold b9d b2r
 rw [e4,e5,e6]
 try rfl
theorem a6X {K r:Frag} {a:Addr}:(K ++ r).lookup a=match K.lookup a with
 | some o=>some o
 | none=>r.lookup a:=by
 induction K with
 | nil=>rfl
 | cons p K ih =>
  obtain ⟨b,o⟩:=p
  show (match a == b with
   | true=>some o
   | false=>(K ++ r).lookup a)=(match (match a == b with
   | true=>some o
   | false=>K.lookup a) with
   | some o=>some o
   | none=>r.lookup a)
  cases a == b with
  | true=>rfl
  | false=>exact ih
theorem a6j {g:Addr→Option Obj} {a:Addr}:∀ l:List Addr,(l.filterMap fun a=>(g a).map fun o=>(a,o)).lookup a=if a∈l then g a else none
 | []=>rfl
 | b :: l=>by
  rw [List.filterMap_cons]
  cases e:g b with
  | none =>
   show (l.filterMap fun a=>(g a).map fun o=>(a,o)).lookup a=_
   rw [a6j l]
   by_cases h:a=b
   ·subst h
    rw [e]
    split <;> split <;> rfl
   ·by_cases m:a∈l
    ·rw [if_pos m,if_pos (zao _ m)]
    ·rw [if_neg m,if_neg fun z=>(zau.mp z).elim h m]
  | some o =>
   show (match a == b with
    | true=>some o
    | false=>(l.filterMap fun a=>(g a).map fun o=>(a,o)).lookup a)=_
   by_cases h:a=b
   ·subst h
    rw [beq_self_eq_true,if_pos zal,e]
   ·rw [beq_eq_false_iff_ne.mpr h]
    show (l.filterMap fun a=>(g a).map fun o=>(a,o)).lookup a=_
    rw [a6j l]
    by_cases m:a∈l
    ·rw [if_pos m,if_pos (zao _ m)]
    ·rw [if_neg m,if_neg fun z=>(zau.mp z).elim h m]
theorem a5f {g:Addr→Option Obj} {K:Frag} {n:Nat} (hK:a2h g K) (hg:∀ a,n≤a→g a=none) (a:Addr):(K ++ a6g g n).lookup a=g a:=by
 rw [a6X]
 cases e:K.lookup a with
 | some o=>exact (hK.at_ e).symm
 | none =>
  show (a6g g n).lookup a=g a
  unfold a6g
  rw [a6j]
  by_cases h:a < n
  ·rw [if_pos (List.mem_range.mpr h)]
  ·rw [if_neg fun z=>h (List.mem_range.mp z),hg a (Nat.le_of_not_lt h)]
theorem b5g {K r:Frag}:nsU (b6p K) (K ++ r)=nsIn (K ++ r):=by
 funext ns x
 unfold nsU
 rw [a0N,a3O]
 cases e:K.lookup ns with
 | none=>rfl
 | some o =>
  obtain ⟨c,d,dt,sl⟩:=o
  cases dt with
  | dict es n =>
   have e2:(K ++ r).lookup ns=some ⟨c,d,.dict es n,sl⟩:=by rw [a6X,e]
   show foN (codeS x) (fun c=>(match a6d c x (es.toList.map fun e=>(a2n e,e)) with
    | some e=>some (some e.val)
    | none=>if (es.toList.map fun e=>(a2n e,e)).any (fun p=>p.2.refKey) then none else some none))=_
   unfold nsIn
   rw [a1T,a4y,List.any_map,e2] <;> rfl
  | _=>rfl
theorem b2t {g:Addr→Option Obj} {N:Nat} (n:Nat) (hg:∀ a,N≤a→g a=none):∃ K:Frag,(∀ a,K.lookup a=g a)∧∀ fa fn fx ts,b2s n N fa fn fx ts g=(obsX fa fn fx K,a2b ts K):=by
 obtain ⟨K,hK,q⟩:=a4H (g:=g) n
 refine ⟨K ++ a6g g N,a5f hK hg,fun fa fn fx ts=>?_⟩
 unfold b2s
 rw [q,a6O,b5g,b2q (by funext a;rw [a0N,a5f hK hg]),a6n]
theorem b1L {h:Heap} {a:Addr} (k:h.objs.size≤a):h.get? a=none:=by
 unfold Heap.get?
 rw [Array.getElem?_eq_none k]
section
open HandSHeadRun
def c1E (r:OpenRow) (M:Nat) (w:World):Prop :=
 ∀ os:OsState,(endF (stepQ (denQ tabQ) r.prog w) M r.prog w os).map (fun s=>looksF r.prog (boot_heap w.params) s.abs)=some true
def c1F (r:OpenRow) (q:Program) (M:Nat) (loose:List Str) (w:World):Prop :=
 ∀ os:OsState,(endF (stepQ (denQ tabQ) r.prog w) M r.prog w os).map (fun s=>seenQ q loose (importedModules r.prog.main.body) (fun s=>xlAt q [] s && recOk r.toRowW.records s) s.abs)=some (openGood q loose)
def b3y (r:OpenRow) (M n:Nat) (fa:List He.Fa) (fn:List He.DefD) (fx:List Fx) (ts:List TbW) (w:World):Prop :=
 ∀ os:OsState,(endF (stepQ (denQ tabQ) r.prog w) M r.prog w os).map (fun s=>b2s n s.n fa fn fx ts (getT s))=some ((He.valD fn,true),a1s ts w)
variable {r:OpenRow} {q:Program} {M n:Nat} {loose:List Str} {w:World} {fa:List He.Fa} {fn:List He.DefD} {fx:List Fx} {ts:List TbW}
theorem b1k.l (h0:b1k r M false w) (h1:b1k r M true w):c1E r M w:=fun os=>a5y fun b=>match b with
 | false=>h0 os
 | true=>h1 os
theorem b1l.s (h0:b1l r q M loose false w) (h1:b1l r q M loose true w):c1F r q M loose w:=fun os=>a5y fun b=>match b with
 | false=>h0 os
 | true=>h1 os
theorem b1m.u (h0:b1m r M n fa fn fx ts false w) (h1:b1m r M n fa fn fx ts true w):b3y r M n fa fn fx ts w:=fun os=>a5y fun b=>match b with
 | false=>h0 os
 | true=>h1 os
theorem b0n {fa1 fa2:List He.Fa} {fn1 fn2:List He.DefD} {fx1 fx2:List Fx} {K:Frag} (h1:obsX fa1 fn1 fx1 K=(He.valD fn1,true)) (h2:obsX fa2 fn2 fx2 K=(He.valD fn2,true)):obsX (fa1 ++ fa2) (fn1 ++ fn2) (fx1 ++ fx2) K=(He.valD (fn1 ++ fn2),true):=by
 rw [← a6n] at h1 h2 ⊢
 unfold b2r He.valD at h1 h2 ⊢
 simp only [Prod.mk.injEq,zak] at h1 h2
 obtain ⟨⟨⟨a1,b1⟩,c1⟩,d1⟩:=h1
 obtain ⟨⟨⟨a2,b2⟩,c2⟩,d2⟩:=h2
 rw [List.all_append,List.all_append,List.all_append,zav,zav,a1,a2,b1,b2,c1,c2,d1,d2]
 rfl
theorem b3a {ts1 ts2:List TbW} {K:Frag} (h1:a2b ts1 K=a1s ts1 w) (h2:a2b ts2 K=a1s ts2 w):a2b (ts1 ++ ts2) K=a1s (ts1 ++ ts2) w:=by
 unfold a2b a1s at h1 h2 ⊢
 simp only [Prod.mk.injEq] at h1 h2
 obtain ⟨a1,b1⟩:=h1
 obtain ⟨a2,b2⟩:=h2
 rw [List.all_append,zav,zav,a1,a2,b1,b2]
 rfl
theorem a94 {s:SharedT} {a:Addr} (h:s.n≤a):getT s a=none:=by
 rw [getT_eq]
 exact b1L (by rw [show s.abs.heap.objs.size=s.n from absHeap_size s.tree s.n s.life];exact h)
theorem b3y.join (k1 k2 k3 k4:Nat) (h1:b3y r M n (fa.take k1) (fn.take k2) (fx.take k3) (ts.take k4) w) (h2:b3y r M n (fa.drop k1) (fn.drop k2) (fx.drop k3) (ts.drop k4) w):b3y r M n fa fn fx ts w:=by
 intro os
 have a:=h1 os
 have b:=h2 os
 cases e:endF (stepQ (denQ tabQ) r.prog w) M r.prog w os with
 | none =>
  rw [e] at a
  cases a
 | some s =>
  rw [e] at a b
  obtain ⟨K,_,q⟩:=b2t (g:=getT s) (N:=s.n) n fun a h=>a94 h
  have a:b2s n s.n (fa.take k1) (fn.take k2) (fx.take k3) (ts.take k4) (getT s)=_:=Option.some.inj a
  have b:b2s n s.n (fa.drop k1) (fn.drop k2) (fx.drop k3) (ts.drop k4) (getT s)=_:=Option.some.inj b
  rw [q] at a b
  obtain ⟨a1,a2⟩:=Prod.mk.inj a
  obtain ⟨b1,b2⟩:=Prod.mk.inj b
  have c:=b0n a1 b1
  have d:=b3a a2 b2
  simp only [List.take_append_drop] at c d
  show some (b2s n s.n fa fn fx ts (getT s))=_
  rw [q,c,d]
end
end Sv
namespace Sv
open PySem PySem.Spec PyProof.Rows L2
end Sv
namespace Cl
open PySem PySem.Spec PyProof.Rows L2 Sv
open L2H (RoomH)
def top (i:Nat):Stmt:=PySem.Challenge.pw_stillmain_k41_cost_of.main.body.getD i (.Pass ⟨0,0,0,0⟩)
def fd (a:Str × Option Str) (n u:Str) (s:Stmt):He.DefD:=⟨a,n,u,defArgs s,defBody s,defScope s,[],[]⟩
def fn:List He.DefD:=[
 fd ("_law_bag",none) "_law_bag" "_law_bag" (top 30),
 fd ("_law_take",none) "_law_take" "_law_take" (top 31),
 fd ("Layout",some "__init__") "__init__" "Layout.__init__" (inClass (top 24) 0),
 fd ("wrong_unless",none) "wrong_unless" "wrong_unless" (top 22),
 fd ("is_name",none) "is_name" "is_name" (top 15),
 fd ("is_whole",none) "is_whole" "is_whole" (top 14),
 fd ("Layout",some "need_new") "need_new" "Layout.need_new" (inClass (top 24) 1),
 fd ("lacks_unless",none) "lacks_unless" "lacks_unless" (top 23),
 fd ("_law_alike",none) "_law_alike" "_law_alike" (top 43),
 fd ("must",none) "must" "must" (top 26),
 fd ("Layout",some "lines") "lines" "Layout.lines" (inClass (top 24) 11),
 fd ("_law_class",none) "_law_class" "_law_class" (top 42),
 fd ("_law_due",none) "_law_due" "_law_due" (top 45),
 fd ("Layout",some "rooms") "rooms" "Layout.rooms" (inClass (top 24) 10),
 fd ("Layout",some "drains") "drains" "Layout.drains" (inClass (top 24) 12),
 fd ("Layout",some "sources") "sources" "Layout.sources" (inClass (top 24) 13),
 fd ("_law_size",none) "_law_size" "_law_size" (top 40),
 fd ("_law_name",none) "_law_name" "_law_name" (top 32),
 fd ("_law_some",none) "_law_some" "_law_some" (top 36),
 fd ("_law_ends",none) "_law_ends" "_law_ends" (top 34),
 fd ("_law_cost",none) "_law_cost" "_law_cost" (top 35),
 fd ("Layout",some "add_room") "add_room" "Layout.add_room" (inClass (top 24) 2),
 fd ("is_cost",none) "is_cost" "is_cost" (top 16),
 fd ("Layout",some "add_source") "add_source" "Layout.add_source" (inClass (top 24) 5),
 fd ("Layout",some "add_drain") "add_drain" "Layout.add_drain" (inClass (top 24) 4),
 fd ("are_names",none) "are_names" "are_names" (top 17),
 fd ("Layout",some "line") "line" "Layout.line" (inClass (top 24) 14),
 fd ("Layout",some "take_line") "take_line" "Layout.take_line" (inClass (top 24) 7),
 fd ("_law_odd_list",none) "_law_odd_list" "_law_odd_list" (top 47),
 fd ("_law_names",none) "_law_names" "_law_names" (top 33),
 fd ("Layout",some "add_line") "add_line" "Layout.add_line" (inClass (top 24) 3),
 fd ("_law_asked",none) "_law_asked" "_law_asked" (top 46),
 fd ("must_be_switches",none) "must_be_switches" "must_be_switches" (top 27),
 fd ("_law_works",none) "_law_works" "_law_works" (top 37),
 fd ("_law_layout",none) "_law_layout" "_law_layout" (top 38),
 fd ("cost_of",none) "cost_of" "cost_of" (top 28),
 fd ("_law_turned",none) "_law_turned" "_law_turned" (top 48),
 fd ("_law_said",none) "_law_said" "_law_said" (top 44),
 fd ("_law_wrong",none) "_law_wrong" "_law_wrong" (top 49),
 fd ("law",none) "law" "law" (top 50),
 fd ("Wrong",some "__init__") "__init__" "Wrong.__init__" (inClass (top 3) 0),
 fd ("There",some "__init__") "__init__" "There.__init__" (inClass (top 4) 0),
 fd ("Lacks",some "__init__") "__init__" "Lacks.__init__" (inClass (top 5) 0),
 fd ("TooMany",some "__init__") "__init__" "TooMany.__init__" (inClass (top 6) 0),
 fd ("Held",some "__init__") "__init__" "Held.__init__" (inClass (top 7) 0),
 fd ("NoPart",some "__init__") "__init__" "NoPart.__init__" (inClass (top 8) 0)]
def fa:List He.Fa:=[
 .glo "_law_bag",
 .glo "_law_take",
 .meth "Layout" "__init__",
 .cls "Layout",
 .mkr "Layout",
 .glo "wrong_unless",
 .glo "is_name",
 .glo "is_whole",
 .meth "Layout" "need_new",
 .glo "lacks_unless",
 .glo "_law_alike",
 .glo "must",
 .meth "Layout" "lines",
 .glo "_law_class",
 .glo "_law_due",
 .meth "Layout" "rooms",
 .meth "Layout" "drains",
 .meth "Layout" "sources",
 .glo "_law_size",
 .glo "_law_name",
 .glo "_law_some",
 .glo "_law_ends",
 .glo "_law_cost",
 .meth "Layout" "add_room",
 .glo "is_cost",
 .meth "Layout" "add_source",
 .meth "Layout" "add_drain",
 .glo "are_names",
 .meth "Layout" "line",
 .meth "Layout" "take_line",
 .glo "_law_odd_list",
 .glo "_law_names",
 .meth "Layout" "add_line",
 .glo "_law_asked",
 .glo "must_be_switches",
 .glo "_law_works",
 .glo "_law_layout",
 .glo "cost_of",
 .glo "_law_turned",
 .glo "_law_said",
 .glo "_law_wrong",
 .glo "law",
 .glo "MainsError",
 .glo "Wrong",
 .glo "There",
 .glo "Lacks",
 .glo "TooMany",
 .glo "Held",
 .glo "NoPart",
 .glo "Layout",
 .free "len",
 .free "abs",
 .free "max",
 .free "min",
 .free "range",
 .free "isinstance",
 .free "repr",
 .free "list",
 .free "tuple",
 .free "dict",
 .free "sorted",
 .free "sum",
 .free "enumerate",
 .free "zip",
 .free "reversed",
 .free "str",
 .free "int",
 .free "bool",
 .free "set",
 .free "ValueError",
 .free "any",
 .free "all",
 .str "LETTERS" "abcdefghijklmnopqrstuvwxyz",
 .int "LONGEST" 8,
 .int "MOST_COST" 99,
 .int "MOST_NAMES" 60,
 .int "MOST_ROOMS" 24,
 .int "MOST_LINES" 40,
 .int "MOST_DRAINS" 12,
 .noat "Layout" "by_room",
 .noat "Layout" "ends_of",
 .noat "Layout" "seat_of",
 .noat "Layout" "pushed"]
def fx:List Fx:=[
 .oex "Wrong",
 .ini "Wrong",
 .nov "Wrong" "at",
 .oex "There",
 .ini "There",
 .nov "There" "name",
 .oex "Lacks",
 .ini "Lacks",
 .nov "Lacks" "name",
 .oex "TooMany",
 .ini "TooMany",
 .nov "TooMany" "most",
 .oex "Held",
 .ini "Held",
 .nov "Held" "hands",
 .oex "NoPart",
 .ini "NoPart",
 .nov "NoPart" "way",
 .bas "MainsError",
 .sib ["Wrong", "There", "Lacks", "TooMany", "Held", "NoPart"],
 .veT ["Wrong", "There", "Lacks", "TooMany", "Held", "NoPart"] "ValueError",
 .exA ["Wrong", "There", "Lacks", "TooMany", "Held", "NoPart"] "MainsError",
 .exfs ["Wrong", "There", "Lacks", "TooMany", "Held", "NoPart"],
 .insf "Layout",
 .tyo "Layout"]
def nm0:List Str:=["_wall", "__name__", "MainsError", "Wrong", "There", "Lacks", "TooMany", "Held", "NoPart", "LETTERS", "LONGEST", "MOST_COST", "MOST_NAMES", "is_whole", "is_name", "is_cost", "are_names", "MOST_ROOMS", "MOST_LINES", "MOST_DRAINS", "wrong_unless", "lacks_unless", "Layout", "must", "must_be_switches", "cost_of", "_law_bag", "_law_take", "_law_name", "_law_names"]
def nm1:List Str:=["_law_ends", "_law_cost", "_law_some", "_law_works", "_law_layout", "_law_barred", "_law_size", "_law_stretch", "_law_class", "_law_alike", "_law_said", "_law_due", "_law_asked", "_law_odd_list", "_law_turned", "_law_wrong"]
def names:List Str:=nm0 ++ nm1
abbrev R:PySem.W.OpenRow:=PySem.W.OpenLaw.row PySem.Challenge.rw_stillmain_k41_cost_of
noncomputable abbrev hk:PySem.W.Hook:=b4K 5 fa fn fx
noncomputable def ob (s:PySem.W.SharedT):AlX:=a7V 5 fa fn fx (HandSHeadRun.getT s)
theorem ob_eq (s:PySem.W.SharedT):ob s=hk.obs s.abs:=b2p (HandSHeadRun.getT_eq s)
theorem run (w:World):HandSHeadRun.RunEq R (PySem.W.view R.prog [50]) hk ob 20000 names w:=by
 intro os
 kernel_rfl
def c1a:List En:=[.fn "_law_bag",.fn "_law_take",.mt "Layout" "__init__",.fn "wrong_unless",.fn "is_name",.fn "is_whole",.mt "Layout" "need_new",.fn "lacks_unless",.fn "_law_alike",.fn "must",.mt "Layout" "lines",.fn "_law_class",.fn "_law_due",.mt "Layout" "rooms",.mt "Layout" "drains",.mt "Layout" "sources",.fn "_law_size",.fn "_law_name",.fn "_law_some",.fn "_law_ends",.fn "_law_cost",.mt "Layout" "add_room",.fn "is_cost",.mt "Layout" "add_source",.mt "Layout" "add_drain",.fn "are_names",.mt "Layout" "line",.mt "Layout" "take_line",.fn "_law_odd_list",.fn "_law_names",.mt "Layout" "add_line",.fn "_law_asked",.fn "must_be_switches",.fn "_law_works",.fn "_law_layout",.fn "cost_of",.fn "_law_turned",.fn "_law_said",.fn "_law_wrong",.fn "law"]
def b3R:List Str:=["MainsError", "Wrong", "There", "Lacks", "TooMany", "Held", "NoPart", "Layout"]
def b8Q:List Str:=["LETTERS", "LONGEST", "MOST_COST", "MOST_NAMES", "MOST_ROOMS", "MOST_LINES", "MOST_DRAINS"]
abbrev sn (N:List Str):SN:=⟨N,c1a,b3R,b8Q⟩
abbrev CK (N:List Str) (s:Stmt) (b:RSs):Prop:=a09 (sn N) (defScope s) b (defBody s)=true
local macro_rules | `(tactic| walk_at "ck")=>`(tactic| decide +kernel)
local macro_rules | `(tactic| walk_at "fs")=>`(tactic| exact ⟨rfl,rfl,rfl,by decide +kernel,rfl,by decide +kernel,by decide +kernel⟩)
def N0:List Str:=["_law_script", "_law_cell"]
def b0:RSs:=.cons (.ret (.lst true (.cons (.con (.int 0)) (.cons (.con (.int 1234567891)) (.cons (.con (.int 0)) (.cons (.lc false (.bi .abs (.cons (.var 1) .nil)) [1] true (.lst (.sl (.var 0) (.nn) (.ss (.con (.int 63))))) (.nn) [("_law_cell",1)]) .nil)))))) .nil
theorem sc0:FnScope N0 ["_law_script"] (defScope (top 30)):=by walk_at "fs"
theorem ck0:CK N0 (top 30) b0:=by walk_at "ck"
def N1:List Str:=["_law_bag_here", "_law_many", "_law_cell", "_law_value", "_law_first", "_law_second"]
def b1:RSs:=.cut (.ifs (.cmp .Eq (.ix (.var 0) (.con (.int 0))) (.con (.int 0))) (.cons (.asg [2] true (.con (.int 0))) (.cut (.ifs (.cmp .Lt (.ix (.var 0) (.con (.int 2))) (.bi .len (.cons (.ix (.var 0) (.con (.int 3))) .nil))) (.cons (.asg [2] true (.ix (.ix (.var 0) (.con (.int 3))) (.ix (.var 0) (.con (.int 2))))) .nil) (.nil)) (.cons (.agi (.var 0) (.con (.int 2)) .Add (.con (.int 1))) (.cut (.ifs (.cmp .GtE (.var 2) (.con (.int 1000000000000000000))) (.cons (.sti (.var 0) (.con (.int 0)) (.var 2)) .nil) (.nil)) (.cons (.sti (.var 0) (.con (.int 1)) (.bin .Mod (.bin .Add (.bin .Add (.bin .Mult (.ix (.var 0) (.con (.int 1))) (.con (.int 48271))) (.bin .Mod (.var 2) (.con (.int 2147483647)))) (.bin .Mult (.con (.int 7919)) (.ix (.var 0) (.con (.int 2))))) (.con (.int 2147483647)))) .nil))))) (.nil)) (.cons (.ifs (.cmp .Gt (.ix (.var 0) (.con (.int 0))) (.con (.int 0))) (.cons (.asg [3] true (.bin .Mod (.ix (.var 0) (.con (.int 0))) (.var 1))) (.cons (.sti (.var 0) (.con (.int 0)) (.bin .FloorDiv (.ix (.var 0) (.con (.int 0))) (.var 1))) (.cons (.ret (.var 3)) .nil))) (.nil)) (.cons (.asg [4] true (.bin .Mod (.bin .Mult (.bin .Add (.ix (.var 0) (.con (.int 1))) (.con (.int 1))) (.con (.int 39373))) (.con (.int 1000000007)))) (.cons (.asg [5] true (.bin .Mod (.bin .Mult (.bin .Mod (.bin .Mult (.var 4) (.var 4)) (.con (.int 998244353))) (.con (.int 30011))) (.con (.int 998244353)))) (.cons (.ifs (.cmp .Gt (.var 1) (.con (.int 1000000))) (.cons (.ret (.bin .Mod (.bin .Add (.bin .Mult (.var 5) (.con (.int 1000000007))) (.var 4)) (.var 1))) .nil) (.nil)) (.cons (.ret (.bin .Mod (.bin .FloorDiv (.var 5) (.con (.int 7))) (.var 1))) .nil)))))
theorem sc1:FnScope N1 ["_law_bag_here", "_law_many"] (defScope (top 31)):=by walk_at "fs"
theorem ck1:CK N1 (top 31) b1:=by walk_at "ck"
def N2:List Str:=["self"]
def b2:RSs:=.cons (.stf (.var 0) "by_room" (.dct true (.nil))) (.cons (.stf (.var 0) "ends_of" (.dct true (.nil))) (.cons (.stf (.var 0) "seat_of" (.dct true (.nil))) (.cons (.stf (.var 0) "pushed" (.dct true (.nil))) .nil)))
theorem sc2:FnScope N2 ["self"] (defScope (inClass (top 24) 0)):=by walk_at "fs"
theorem ck2:CK N2 (inClass (top 24) 0) b2:=by walk_at "ck"
def N3:List Str:=["at", "good"]
def b3:RSs:=.cons (.ifs (.nt (.var 1)) (.cons (.rai 1 (.cons (.var 0) .nil)) .nil) (.nil)) .nil
theorem sc3:FnScope N3 ["at", "good"] (defScope (top 22)):=by walk_at "fs"
theorem ck3:CK N3 (top 22) b3:=by walk_at "ck"
def N4:List Str:=["thing", "sign"]
def b4:RSs:=.cons (.ifs (.or (.cons (.nt (.isi (.var 0) (.ty "str"))) (.cons (.nt (.chn .LtE .LtE (.con (.int 1)) (.bi .len (.cons (.var 0) .nil)) (.glb 1))) .nil))) (.cons (.ret (.con (.bl false))) .nil) (.nil)) (.cons (.fr [1] true (.str (.var 0)) (.cons (.ifs (.cmp .NotIn (.var 1) (.glb 0)) (.cons (.ret (.con (.bl false))) .nil) (.nil)) .nil)) (.cons (.ret (.con (.bl true))) .nil))
theorem sc4:FnScope N4 ["thing"] (defScope (top 15)):=by walk_at "fs"
theorem ck4:CK N4 (top 15) b4:=by walk_at "ck"
def N5:List Str:=["thing"]
def b5:RSs:=.cons (.ret (.and (.cons (.isi (.var 0) (.ty "int")) (.cons (.nt (.isi (.var 0) (.ty "bool"))) .nil)))) .nil
theorem sc5:FnScope N5 ["thing"] (defScope (top 14)):=by walk_at "fs"
theorem ck5:CK N5 (top 14) b5:=by walk_at "ck"
def N6:List Str:=["self", "name"]
def b6:RSs:=.cons (.ifs (.or (.cons (.cmp .In (.var 1) (.fld (.var 0) "ends_of")) (.cons (.cmp .In (.var 1) (.fld (.var 0) "seat_of")) .nil))) (.cons (.rai 2 (.cons (.var 1) .nil)) .nil) (.nil)) .nil
theorem sc6:FnScope N6 ["self", "name"] (defScope (inClass (top 24) 1)):=by walk_at "fs"
theorem ck6:CK N6 (inClass (top 24) 1) b6:=by walk_at "ck"
def N7:List Str:=["name", "some"]
def b7:RSs:=.cons (.ifs (.cmp .NotIn (.var 0) (.var 1)) (.cons (.rai 3 (.cons (.var 0) .nil)) .nil) (.nil)) .nil
theorem sc7:FnScope N7 ["name", "some"] (defScope (top 23)):=by walk_at "fs"
theorem ck7:CK N7 (top 23) b7:=by walk_at "ck"
def N8:List Str:=["_law_found", "_law_due_here"]
def b8:RSs:=.cons (.ret (.and (.cons (.cmp .Eq (.var 0) (.var 1)) (.cons (.cmp .Eq (.bi .rpr (.cons (.var 0) .nil)) (.bi .rpr (.cons (.var 1) .nil))) .nil)))) .nil
theorem sc8:FnScope N8 ["_law_found", "_law_due_here"] (defScope (top 43)):=by walk_at "fs"
theorem ck8:CK N8 (top 43) b8:=by walk_at "ck"
def N9:List Str:=["at", "good"]
def b9:RSs:=.cons (.ifs (.nt (.var 1)) (.cons (.rai 1 (.cons (.var 0) .nil)) .nil) (.nil)) .nil
theorem sc9:FnScope N9 ["at", "good"] (defScope (top 26)):=by walk_at "fs"
theorem ck9:CK N9 (top 26) b9:=by walk_at "ck"
def N10:List Str:=["self"]
def b10:RSs:=.cons (.ret (.bi (.srt false) (.cons (.fld (.var 0) "ends_of") .nil))) .nil
theorem c3B:FnScope N10 ["self"] (defScope (inClass (top 24) 11)):=by walk_at "fs"
theorem c1Q:CK N10 (inClass (top 24) 11) b10:=by walk_at "ck"
def N11:List Str:=["_law_e", "_law_kinds"]
def b11:RSs:=.cons (.asg [1] true (.lst false (.cons (.isi (.var 0) (.own 1)) (.cons (.isi (.var 0) (.own 3)) (.cons (.isi (.var 0) (.own 6)) .nil))))) (.cons (.asg [1] true (.bin .Add (.var 1) (.lst false (.cons (.isi (.var 0) (.own 2)) (.cons (.isi (.var 0) (.own 4)) (.cons (.isi (.var 0) (.own 5)) .nil)))))) (.cons (.ifs (.or (.cons (.nt (.isi (.var 0) (.ty "ValueError"))) (.cons (.cmp .NotEq (.mth .cnt (.var 1) (.cons (.con (.bl true)) .nil)) (.con (.int 1))) (.cons (.cmp .In (.con (.bl true)) (.sl (.var 1) (.ss (.con (.int 3))) (.nn))) .nil)))) (.cons (.ret (.tup (.cons (.con (.str "other")) .nil))) .nil) (.nil)) (.cons (.ifs (.ix (.var 1) (.con (.int 0))) (.cons (.ret (.tup (.cons (.con (.str "Wrong")) (.cons (.fld (.var 0) "at") .nil)))) .nil) (.nil)) (.cons (.ifs (.ix (.var 1) (.con (.int 1))) (.cons (.ret (.tup (.cons (.con (.str "Lacks")) (.cons (.fld (.var 0) "name") .nil)))) .nil) (.nil)) (.cons (.ret (.tup (.cons (.con (.str "NoPart")) (.cons (.fld (.var 0) "way") .nil)))) .nil)))))
theorem c3C:FnScope N11 ["_law_e"] (defScope (top 42)):=by walk_at "fs"
theorem c1R:CK N11 (top 42) b11:=by walk_at "ck"
def N12:List Str:=["_law_m", "_law_names_here", "_law_total", "_law_name_here"]
def b12:RSs:=.cons (.asg [2] true (.con (.int 0))) (.cons (.fr [3] true (.lst (.var 1)) (.cons (.ifs (.or (.cons (.cmp .NotIn (.var 3) (.ix (.var 0) (.con (.str "lines")))) (.cons (.cmp .Eq (.ix (.ix (.ix (.var 0) (.con (.str "lines"))) (.var 3)) (.con (.int 2))) (.con (.int 0))) .nil))) (.cons (.ret (.tup (.cons (.con (.str "Lacks")) (.cons (.var 3) .nil)))) .nil) (.nil)) (.cons (.agv 2 .Add (.ix (.ix (.ix (.var 0) (.con (.str "lines"))) (.var 3)) (.con (.int 2)))) .nil))) (.cons (.ret (.tup (.cons (.con (.str "told")) (.cons (.var 2) .nil)))) .nil))
theorem c3D:FnScope N12 ["_law_m", "_law_names_here"] (defScope (top 45)):=by walk_at "fs"
theorem c1S:CK N12 (top 45) b12:=by walk_at "ck"
def N13:List Str:=["self"]
def b13:RSs:=.cons (.ret (.bi (.srt false) (.cons (.fld (.var 0) "by_room") .nil))) .nil
theorem c3E:FnScope N13 ["self"] (defScope (inClass (top 24) 10)):=by walk_at "fs"
theorem c1T:CK N13 (inClass (top 24) 10) b13:=by walk_at "ck"
def N14:List Str:=["self"]
def b14:RSs:=.cons (.ret (.bi (.srt false) (.cons (.fld (.var 0) "seat_of") .nil))) .nil
theorem c3F:FnScope N14 ["self"] (defScope (inClass (top 24) 12)):=by walk_at "fs"
theorem c1U:CK N14 (inClass (top 24) 12) b14:=by walk_at "ck"
def N15:List Str:=["self"]
def b15:RSs:=.cons (.ret (.bi (.srt false) (.cons (.fld (.var 0) "pushed") .nil))) .nil
theorem c3G:FnScope N15 ["self"] (defScope (inClass (top 24) 13)):=by walk_at "fs"
theorem c1V:CK N15 (inClass (top 24) 13) b15:=by walk_at "ck"
def N16:List Str:=["_law_bag_here", "_law_way"]
def b16:RSs:=.cons (.asg [1] true (.call 1 (.cons (.var 0) (.cons (.con (.int 4)) .nil)))) (.cons (.ifs (.cmp .Eq (.var 1) (.con (.int 0))) (.cons (.ret (.tup (.cons (.con (.int 24)) (.cons (.con (.int 40)) .nil)))) .nil) (.nil)) (.cons (.ifs (.cmp .Eq (.var 1) (.con (.int 1))) (.cons (.ret (.tup (.cons (.bin .Add (.con (.int 1)) (.call 1 (.cons (.var 0) (.cons (.con (.int 24)) .nil)))) (.cons (.call 1 (.cons (.var 0) (.cons (.con (.int 41)) .nil))) .nil)))) .nil) (.nil)) (.cons (.ret (.tup (.cons (.bin .Add (.con (.int 2)) (.call 1 (.cons (.var 0) (.cons (.con (.int 6)) .nil)))) (.cons (.bin .Add (.con (.int 3)) (.call 1 (.cons (.var 0) (.cons (.con (.int 14)) .nil)))) .nil)))) .nil)))
theorem c3H:FnScope N16 ["_law_bag_here"] (defScope (top 40)):=by walk_at "fs"
theorem c1W:CK N16 (top 40) b16:=by walk_at "ck"
def N17:List Str:=["_law_bag_here", "_law_words", "_law_way", "_law_letters", "_law_k"]
def b17:RSs:=.cons (.asg [1] true (.lst false (.cons (.con (.str "open")) (.cons (.con (.str "shut")) (.cons (.con (.str "by")) (.cons (.con (.str "step")) (.cons (.con (.str "none")) (.cons (.con (.str "paper")) (.cons (.con (.str "at")) (.cons (.con (.str "done")) (.cons (.con (.str "a")) (.cons (.con (.str "aa")) (.cons (.con (.str "ab")) (.cons (.con (.str "b")) .nil)))))))))))))) (.cons (.asg [2] true (.call 1 (.cons (.var 0) (.cons (.con (.int 4)) .nil)))) (.cons (.ifs (.cmp .Eq (.var 2) (.con (.int 0))) (.cons (.ret (.ix (.var 1) (.call 1 (.cons (.var 0) (.cons (.con (.int 12)) .nil))))) .nil) (.nil)) (.cons (.asg [3] true (.con (.str "abcdefghijklmnopqrstuvwxyz"))) (.cons (.ret (.mth .join (.con (.str "")) (.cons (.lc false (.ix (.var 3) (.call 1 (.cons (.var 0) (.cons (.con (.int 26)) .nil)))) [4] true (.rng1 (.bin .Add (.con (.int 1)) (.call 1 (.cons (.var 0) (.cons (.ix (.lst false (.cons (.con (.int 2)) (.cons (.con (.int 8)) (.cons (.con (.int 1)) .nil)))) (.bin .Sub (.var 2) (.con (.int 1)))) .nil))))) (.nn) [("_law_k",4)]) .nil))) .nil))))
theorem c3I:FnScope N17 ["_law_bag_here"] (defScope (top 32)):=by walk_at "fs"
theorem c1X:CK N17 (top 32) b17:=by walk_at "ck"
def N18:List Str:=["_law_bag_here", "_law_names_here", "_law_many", "_law_found", "_law_k", "_law_name_here"]
def b18:RSs:=.cons (.asg [3] true (.lst true (.nil))) (.cons (.fr [4] true (.rng1 (.bin .Mult (.var 2) (.bi .int (.cons (.cmp .NotEq (.var 1) (.lst false (.nil))) .nil)))) (.cons (.asg [5] true (.ix (.var 1) (.call 1 (.cons (.var 0) (.cons (.bi .len (.cons (.var 1) .nil)) .nil))))) (.cons (.ifs (.cmp .NotIn (.var 5) (.var 3)) (.cons (.exp (.mth .app (.var 3) (.cons (.var 5) .nil))) .nil) (.nil)) .nil))) (.cons (.ret (.var 3)) .nil))
theorem c3J:FnScope N18 ["_law_bag_here", "_law_names_here", "_law_many"] (defScope (top 36)):=by walk_at "fs"
theorem c1Y:CK N18 (top 36) b18:=by walk_at "ck"
def N19:List Str:=["_law_bag_here", "_law_many", "_law_shape", "_law_k", "_law_half", "_law_heap"]
def b19:RSs:=.cons (.asg [4] true (.bin .FloorDiv (.bin .Add (.var 1) (.con (.int 1))) (.con (.int 2)))) (.cons (.ifs (.cmp .Eq (.var 2) (.con (.int 0))) (.cons (.ret (.tup (.cons (.call 1 (.cons (.var 0) (.cons (.var 1) .nil))) (.cons (.call 1 (.cons (.var 0) (.cons (.var 1) .nil))) .nil)))) .nil) (.nil)) (.cons (.ifs (.cmp .Eq (.var 2) (.con (.int 1))) (.cons (.ret (.tup (.cons (.bin .Mod (.var 3) (.var 1)) (.cons (.bin .Mod (.bin .Add (.bin .Add (.var 3) (.con (.int 1))) (.bin .Mult (.call 1 (.cons (.var 0) (.cons (.con (.int 2)) .nil))) (.call 1 (.cons (.var 0) (.cons (.var 1) .nil))))) (.var 1)) .nil)))) .nil) (.nil)) (.cons (.ifs (.cmp .Eq (.var 2) (.con (.int 2))) (.cons (.ret (.tup (.cons (.bin .Mod (.var 3) (.var 1)) (.cons (.call 1 (.cons (.var 0) (.cons (.bin .Add (.con (.int 1)) (.bin .Mod (.var 3) (.var 1))) .nil))) .nil)))) .nil) (.nil)) (.cons (.ifs (.cmp .Eq (.call 1 (.cons (.var 0) (.cons (.con (.int 5)) .nil))) (.con (.int 0))) (.cons (.ret (.tup (.cons (.call 1 (.cons (.var 0) (.cons (.var 4) .nil))) (.cons (.bin .Mod (.bin .Add (.var 4) (.call 1 (.cons (.var 0) (.cons (.var 1) .nil)))) (.var 1)) .nil)))) .nil) (.nil)) (.cons (.asg [5] true (.bin .Mult (.call 1 (.cons (.var 0) (.cons (.con (.int 2)) .nil))) (.var 4))) (.cons (.ret (.tup (.cons (.bin .Mod (.bin .Add (.var 5) (.call 1 (.cons (.var 0) (.cons (.var 4) .nil)))) (.var 1)) (.cons (.bin .Mod (.bin .Add (.var 5) (.call 1 (.cons (.var 0) (.cons (.var 4) .nil)))) (.var 1)) .nil)))) .nil))))))
theorem c3K:FnScope N19 ["_law_bag_here", "_law_many", "_law_shape", "_law_k"] (defScope (top 34)):=by walk_at "fs"
theorem c1Z:CK N19 (top 34) b19:=by walk_at "ck"
def N20:List Str:=["_law_bag_here", "_law_costs", "_law_way"]
def b20:RSs:=.cons (.asg [2] true (.call 1 (.cons (.var 0) (.cons (.con (.int 6)) .nil)))) (.cons (.ifs (.cmp .Eq (.var 2) (.con (.int 0))) (.cons (.ret (.con (.int 0))) .nil) (.nil)) (.cons (.ifs (.or (.cons (.cmp .Eq (.var 1) (.con (.int 0))) (.cons (.cmp .Eq (.var 2) (.con (.int 1))) .nil))) (.cons (.ret (.con (.int 1))) .nil) (.nil)) (.cons (.ifs (.or (.cons (.cmp .Eq (.var 1) (.con (.int 1))) (.cons (.cmp .Eq (.var 2) (.con (.int 2))) .nil))) (.cons (.ret (.bin .Add (.con (.int 1)) (.call 1 (.cons (.var 0) (.cons (.con (.int 3)) .nil))))) .nil) (.nil)) (.cons (.ret (.bin .Add (.con (.int 1)) (.call 1 (.cons (.var 0) (.cons (.con (.int 99)) .nil))))) .nil))))
theorem c3L:FnScope N20 ["_law_bag_here", "_law_costs"] (defScope (top 35)):=by walk_at "fs"
theorem c13:CK N20 (top 35) b20:=by walk_at "ck"
def N21:List Str:=["self", "room"]
def b21:RSs:=.cons (.exp (.call 3 (.cons (.con (.int 0)) (.cons (.call 4 (.cons (.var 1) .nil)) .nil)))) (.cons (.ifs (.cmp .In (.var 1) (.fld (.var 0) "by_room")) (.cons (.rai 2 (.cons (.var 1) .nil)) .nil) (.nil)) (.cons (.ifs (.cmp .GtE (.bi .len (.cons (.fld (.var 0) "by_room") .nil)) (.glb 4)) (.cons (.rai 4 (.cons (.glb 4) .nil)) .nil) (.nil)) (.cons (.sti (.fld (.var 0) "by_room") (.var 1) (.con (.bl true))) .nil)))
theorem c3M:FnScope N21 ["self", "room"] (defScope (inClass (top 24) 2)):=by walk_at "fs"
theorem c14:CK N21 (inClass (top 24) 2) b21:=by walk_at "ck"
def N22:List Str:=["thing"]
def b22:RSs:=.cons (.ret (.and (.cons (.call 5 (.cons (.var 0) .nil)) (.cons (.chn .LtE .LtE (.con (.int 0)) (.var 0) (.glb 2)) .nil)))) .nil
theorem c3N:FnScope N22 ["thing"] (defScope (top 16)):=by walk_at "fs"
theorem c15:CK N22 (top 16) b22:=by walk_at "ck"
def N23:List Str:=["self", "room"]
def b23:RSs:=.cons (.exp (.call 3 (.cons (.con (.int 0)) (.cons (.call 4 (.cons (.var 1) .nil)) .nil)))) (.cons (.exp (.call 7 (.cons (.var 1) (.cons (.fld (.var 0) "by_room") .nil)))) (.cons (.ifs (.cmp .In (.var 1) (.fld (.var 0) "pushed")) (.cons (.rai 2 (.cons (.var 1) .nil)) .nil) (.nil)) (.cons (.sti (.fld (.var 0) "pushed") (.var 1) (.con (.bl true))) .nil)))
theorem c3O:FnScope N23 ["self", "room"] (defScope (inClass (top 24) 5)):=by walk_at "fs"
theorem c17:CK N23 (inClass (top 24) 5) b23:=by walk_at "ck"
def N24:List Str:=["self", "drain", "room"]
def b24:RSs:=.cons (.exp (.call 3 (.cons (.con (.int 0)) (.cons (.call 4 (.cons (.var 1) .nil)) .nil)))) (.cons (.exp (.call 3 (.cons (.con (.int 1)) (.cons (.call 4 (.cons (.var 2) .nil)) .nil)))) (.cons (.exp (.om 6 "need_new" (.var 0) (.cons (.var 1) .nil))) (.cons (.exp (.call 7 (.cons (.var 2) (.cons (.fld (.var 0) "by_room") .nil)))) (.cons (.ifs (.cmp .GtE (.bi .len (.cons (.fld (.var 0) "seat_of") .nil)) (.glb 6)) (.cons (.rai 4 (.cons (.glb 6) .nil)) .nil) (.nil)) (.cons (.sti (.fld (.var 0) "seat_of") (.var 1) (.var 2)) .nil)))))
theorem c3P:FnScope N24 ["self", "drain", "room"] (defScope (inClass (top 24) 4)):=by walk_at "fs"
theorem c18:CK N24 (inClass (top 24) 4) b24:=by walk_at "ck"
def N25:List Str:=["thing", "seen", "name"]
def b25:RSs:=.cons (.ifs (.or (.cons (.nt (.isi (.var 0) (.ty "list"))) (.cons (.cmp .Gt (.bi .len (.cons (.var 0) .nil)) (.glb 3)) .nil))) (.cons (.ret (.con (.bl false))) .nil) (.nil)) (.cons (.asg [1] true (.dct true (.nil))) (.cons (.fr [2] true (.lst (.var 0)) (.cons (.ifs (.or (.cons (.nt (.call 4 (.cons (.var 2) .nil))) (.cons (.cmp .In (.var 2) (.var 1)) .nil))) (.cons (.ret (.con (.bl false))) .nil) (.nil)) (.cons (.sti (.var 1) (.var 2) (.con (.bl true))) .nil))) (.frz 1 (.cons (.ret (.con (.bl true))) .nil))))
theorem c3Q:FnScope N25 ["thing"] (defScope (top 17)):=by walk_at "fs"
theorem c19:CK N25 (top 17) b25:=by walk_at "ck"
def N26:List Str:=["self", "line"]
def b26:RSs:=.cons (.exp (.call 3 (.cons (.con (.int 0)) (.cons (.call 4 (.cons (.var 1) .nil)) .nil)))) (.cons (.exp (.call 7 (.cons (.var 1) (.cons (.fld (.var 0) "ends_of") .nil)))) (.cons (.ret (.ix (.fld (.var 0) "ends_of") (.var 1))) .nil))
theorem c3R:FnScope N26 ["self", "line"] (defScope (inClass (top 24) 14)):=by walk_at "fs"
theorem c2a:CK N26 (inClass (top 24) 14) b26:=by walk_at "ck"
def N27:List Str:=["self", "line"]
def b27:RSs:=.cons (.exp (.call 3 (.cons (.con (.int 0)) (.cons (.call 4 (.cons (.var 1) .nil)) .nil)))) (.cons (.exp (.call 7 (.cons (.var 1) (.cons (.fld (.var 0) "ends_of") .nil)))) (.cons (.exp (.mth .dpop (.fld (.var 0) "ends_of") (.cons (.var 1) .nil))) .nil))
theorem c3S:FnScope N27 ["self", "line"] (defScope (inClass (top 24) 7)):=by walk_at "fs"
theorem c2b:CK N27 (inClass (top 24) 7) b27:=by walk_at "ck"
def N28:List Str:=["_law_bag_here", "_law_names_here", "_law_odd", "_law_letters", "_law_way", "_law_at", "_law_letter"]
def b28:RSs:=.cons (.asg [2] true (.lst false (.cons (.con .non) (.cons (.con (.int 5)) (.cons (.con (.str "a")) (.cons (.tup (.cons (.con (.str "a")) .nil)) (.cons (.lst false (.cons (.con (.str "a")) (.cons (.con (.str "a")) .nil))) (.cons (.lst false (.cons (.con (.str "b")) (.cons (.con (.int 7)) .nil))) (.cons (.lst false (.cons (.con (.str "A")) .nil)) (.cons (.lst false (.cons (.con (.str "")) .nil)) (.cons (.lst false (.cons (.con (.str "abcdefghi")) .nil)) (.cons (.lst false (.cons (.con (.bl true)) .nil)) (.cons (.dct false (.cons (.con (.str "a")) (.con (.int 1)) (.nil))) .nil))))))))))))) (.cons (.asg [3] true (.con (.str "abcdefghijklmnopqrstuvwxyz"))) (.cons (.asg [4] true (.call 1 (.cons (.var 0) (.cons (.con (.int 4)) .nil)))) (.cons (.asg [5] true (.call 1 (.cons (.var 0) (.cons (.bin .Add (.bi .len (.cons (.var 1) .nil)) (.con (.int 1))) .nil)))) (.cons (.ifs (.cmp .Eq (.var 4) (.con (.int 0))) (.cons (.ret (.sl (.bin .Add (.bin .Add (.lc false (.bin .Add (.var 6) (.con (.str "qq"))) [6] true (.str (.var 3)) (.nn) [("_law_letter",6)]) (.lc false (.bin .Add (.con (.str "q")) (.var 6)) [6] true (.str (.var 3)) (.nn) [("_law_letter",6)])) (.bi (.lss false) (.cons (.var 3) .nil))) (.nn) (.ss (.con (.int 61))))) .nil) (.nil)) (.cons (.ifs (.cmp .Eq (.var 4) (.con (.int 1))) (.cons (.ret (.bin .Add (.bin .Add (.sl (.var 1) (.nn) (.ss (.var 5))) (.lst false (.cons (.con (.str "B")) .nil))) (.sl (.var 1) (.ss (.var 5)) (.nn)))) .nil) (.nil)) (.cons (.ret (.ix (.var 2) (.call 1 (.cons (.var 0) (.cons (.con (.int 11)) .nil))))) .nil))))))
theorem c3T:FnScope N28 ["_law_bag_here", "_law_names_here"] (defScope (top 47)):=by walk_at "fs"
theorem c2c:CK N28 (top 47) b28:=by walk_at "ck"
def N29:List Str:=["_law_bag_here", "_law_many", "_law_letters", "_law_some_here", "_law_found", "_law_name_here", "_law_k", "_law_letter"]
def b29:RSs:=.cons (.asg [2] true (.con (.str "abcdefghijklmnopqrstuvwxyz"))) (.cons (.asl 3 (.lc false (.call 17 (.cons (.var 0) .nil)) [6] true (.rng1 (.var 1)) (.nn) [("_law_k",6)])) (.cons (.asg [3] true (.bin .Add (.bin .Add (.var 3) (.lc false (.bin .Add (.var 7) (.con (.str "x"))) [7] true (.str (.var 2)) (.nn) [("_law_letter",7)])) (.lc false (.bin .Add (.con (.str "y")) (.var 7)) [7] true (.str (.var 2)) (.nn) [("_law_letter",7)]))) (.cons (.asg [4] true (.lst true (.nil))) (.cons (.fr [5] true (.lst (.var 3)) (.cons (.ifs (.and (.cons (.cmp .NotIn (.var 5) (.var 4)) (.cons (.cmp .Lt (.bi .len (.cons (.var 4) .nil)) (.var 1)) .nil))) (.cons (.exp (.mth .app (.var 4) (.cons (.var 5) .nil))) .nil) (.nil)) .nil)) (.frz 4 (.cons (.ret (.var 4)) .nil))))))
theorem c3U:FnScope N29 ["_law_bag_here", "_law_many"] (defScope (top 33)):=by walk_at "fs"
theorem c2d:CK N29 (top 33) b29:=by walk_at "ck"
def N30:List Str:=["self", "line", "one", "other", "cost"]
def b30:RSs:=.cons (.exp (.call 3 (.cons (.con (.int 0)) (.cons (.call 4 (.cons (.var 1) .nil)) .nil)))) (.cons (.exp (.call 3 (.cons (.con (.int 1)) (.cons (.call 4 (.cons (.var 2) .nil)) .nil)))) (.cons (.exp (.call 3 (.cons (.con (.int 2)) (.cons (.and (.cons (.call 4 (.cons (.var 3) .nil)) (.cons (.cmp .NotEq (.var 3) (.var 2)) .nil))) .nil)))) (.cons (.exp (.call 3 (.cons (.con (.int 3)) (.cons (.call 22 (.cons (.var 4) .nil)) .nil)))) (.cons (.exp (.om 6 "need_new" (.var 0) (.cons (.var 1) .nil))) (.cons (.exp (.call 7 (.cons (.var 2) (.cons (.fld (.var 0) "by_room") .nil)))) (.cons (.exp (.call 7 (.cons (.var 3) (.cons (.fld (.var 0) "by_room") .nil)))) (.cons (.ifs (.cmp .GtE (.bi .len (.cons (.fld (.var 0) "ends_of") .nil)) (.glb 5)) (.cons (.rai 4 (.cons (.glb 5) .nil)) .nil) (.nil)) (.cons (.sti (.fld (.var 0) "ends_of") (.var 1) (.tup (.cons (.var 2) (.cons (.var 3) (.cons (.var 4) .nil))))) .nil))))))))
theorem c3V:FnScope N30 ["self", "line", "one", "other", "cost"] (defScope (inClass (top 24) 3)):=by walk_at "fs"
theorem c2e:CK N30 (inClass (top 24) 3) b30:=by walk_at "ck"
def N31:List Str:=["_law_bag_here", "_law_m", "_law_switches", "_law_way", "_law_name_here"]
def b31:RSs:=.cons (.lck (.asl 2 (.lc false (.var 4) [4] true (.keys (.ix (.var 1) (.con (.str "lines")))) (.ss (.cmp .Gt (.ix (.ix (.ix (.var 1) (.con (.str "lines"))) (.var 4)) (.con (.int 2))) (.con (.int 0)))) [("_law_name_here",4)]))) (.cons (.asg [3] true (.call 1 (.cons (.var 0) (.cons (.con (.int 4)) .nil)))) (.cons (.ifs (.cmp .Eq (.var 3) (.con (.int 0))) (.cons (.ret (.rev true (.var 2))) .nil) (.nil)) (.cons (.ret (.call 18 (.cons (.var 0) (.cons (.var 2) (.cons (.ix (.lst false (.cons (.con (.int 0)) (.cons (.con (.int 3)) (.cons (.con (.int 12)) .nil)))) (.bin .Sub (.var 3) (.con (.int 1)))) .nil))))) .nil)))
theorem c3W:FnScope N31 ["_law_bag_here", "_law_m"] (defScope (top 46)):=by walk_at "fs"
theorem c2f:CK N31 (top 46) b31:=by walk_at "ck"
def N32:List Str:=["layout", "names", "known", "name"]
def b32:RSs:=.cons (.asg [2] true (.om 10 "lines" (.var 0) (.nil))) (.cons (.fr [3] true (.lst (.var 1)) (.cons (.ifs (.or (.cons (.cmp .NotIn (.var 3) (.var 2)) (.cons (.cmp .Eq (.ix (.om 26 "line" (.var 0) (.cons (.var 3) .nil)) (.con (.int 2))) (.con (.int 0))) .nil))) (.cons (.rai 3 (.cons (.var 3) .nil)) .nil) (.nil)) .nil)) .nil)
theorem c3X:FnScope N32 ["layout", "names"] (defScope (top 27)):=by walk_at "fs"
theorem c2g:CK N32 (top 27) b32:=by walk_at "ck"
def N33:List Str:=["_law_bag_here", "_law_many", "_law_more", "_law_shape", "_law_costs", "_law_drawn", "_law_half", "_law_sources", "_law_lines", "_law_k", "_law_name_here", "_law_one", "_law_other", "_law_cost_here"]
def b33:RSs:=.cons (.asg [3] true (.call 1 (.cons (.var 0) (.cons (.con (.int 4)) .nil)))) (.cons (.asg [4] true (.call 1 (.cons (.var 0) (.cons (.con (.int 3)) .nil)))) (.cons (.asg [5] true (.call 29 (.cons (.var 0) (.cons (.var 1) .nil)))) (.cons (.asg [6] true (.bin .FloorDiv (.bin .Add (.var 1) (.con (.int 1))) (.con (.int 2)))) (.cons (.asg [7] true (.call 18 (.cons (.var 0) (.cons (.sl (.var 5) (.nn) (.ss (.var 6))) (.cons (.ix (.lst false (.cons (.con (.int 1)) (.cons (.con (.int 1)) (.cons (.con (.int 2)) (.cons (.con (.int 3)) (.cons (.con (.int 0)) (.cons (.con (.int 12)) .nil))))))) (.call 1 (.cons (.var 0) (.cons (.con (.int 6)) .nil)))) .nil))))) (.cons (.asg [8] true (.dct true (.nil))) (.cons (.fr [9,10] false (.enum (.call 29 (.cons (.var 0) (.cons (.var 2) .nil)))) (.cons (.asg [11,12] false (.call 19 (.cons (.var 0) (.cons (.var 1) (.cons (.var 3) (.cons (.var 9) .nil)))))) (.cons (.asg [13] true (.call 20 (.cons (.var 0) (.cons (.var 4) .nil)))) (.cons (.ifs (.cmp .NotEq (.var 11) (.var 12)) (.cons (.sti (.var 8) (.var 10) (.tup (.cons (.ix (.var 5) (.var 11)) (.cons (.ix (.var 5) (.var 12)) (.cons (.var 13) .nil))))) .nil) (.nil)) .nil)))) (.cons (.ret (.dct true (.cons (.con (.str "rooms")) (.bi (.srt false) (.cons (.var 5) .nil)) (.cons (.con (.str "drawn")) (.var 5) (.cons (.con (.str "lines")) (.var 8) (.cons (.con (.str "sources")) (.bi (.srt false) (.cons (.var 7) .nil)) (.nil))))))) .nil)))))))
theorem c3Y:FnScope N33 ["_law_bag_here", "_law_many", "_law_more"] (defScope (top 37)):=by walk_at "fs"
theorem c2h:CK N33 (top 37) b33:=by walk_at "ck"
def N34:List Str:=["_law_m", "_law_here", "_law_room", "_law_name_here", "_law_one", "_law_other", "_law_cost_here"]
def b34:RSs:=.cons (.asg [1] true (.mk 2 (.nil))) (.cons (.fr [2] true (.lst (.ix (.var 0) (.con (.str "drawn")))) (.cons (.exp (.om 21 "add_room" (.var 1) (.cons (.var 2) .nil))) .nil)) (.cons (.lck (.fr [3] true (.keys (.ix (.var 0) (.con (.str "lines")))) (.cons (.asg [4,5,6] false (.ix (.ix (.var 0) (.con (.str "lines"))) (.var 3))) (.cons (.exp (.om 30 "add_line" (.var 1) (.cons (.var 3) (.cons (.var 4) (.cons (.var 5) (.cons (.var 6) .nil)))))) .nil)))) (.cons (.fr [2] true (.lst (.ix (.var 0) (.con (.str "sources")))) (.cons (.exp (.om 23 "add_source" (.var 1) (.cons (.var 2) .nil))) .nil)) (.cons (.ret (.var 1)) .nil))))
theorem c3Z:FnScope N34 ["_law_m"] (defScope (top 38)):=by walk_at "fs"
theorem c2i:CK N34 (top 38) b34:=by walk_at "ck"
def N35:List Str:=["layout", "switches", "name"]
def b35:RSs:=.cons (.exp (.call 9 (.cons (.con (.int 0)) (.cons (.isi (.var 0) (.own 7)) .nil)))) (.cons (.exp (.call 9 (.cons (.con (.int 1)) (.cons (.call 25 (.cons (.var 1) .nil)) .nil)))) (.cons (.exp (.call 32 (.cons (.var 0) (.cons (.var 1) .nil)))) (.cons (.ret (.bi .sum (.cons (.lc false (.ix (.om 26 "line" (.var 0) (.cons (.var 2) .nil)) (.con (.int 2))) [2] true (.lst (.var 1)) (.nn) [("name",2)]) .nil))) .nil)))
theorem c30:FnScope N35 ["layout", "switches"] (defScope (top 28)):=by walk_at "fs"
theorem c2j:CK N35 (top 28) b35:=by walk_at "ck"
def N36:List Str:=["_law_bag_here", "_law_here", "_law_m", "_law_name_here", "_law_one", "_law_other", "_law_cost_here"]
def b36:RSs:=.cons (.ifs (.cmp .In (.var 3) (.ix (.var 2) (.con (.str "lines")))) (.cons (.asg [4,5,6] false (.mth .dpop (.ix (.var 2) (.con (.str "lines"))) (.cons (.var 3) .nil))) (.cons (.exp (.om 27 "take_line" (.var 1) (.cons (.var 3) .nil))) (.cons (.ifs (.cmp .Gt (.call 1 (.cons (.var 0) (.cons (.con (.int 4)) .nil))) (.con (.int 0))) (.cons (.sti (.ix (.var 2) (.con (.str "lines"))) (.var 3) (.tup (.cons (.var 5) (.cons (.var 4) (.cons (.ix (.lst false (.cons (.con (.int 0)) (.cons (.con (.int 1)) (.cons (.call 1 (.cons (.var 0) (.cons (.con (.int 100)) .nil))) .nil)))) (.call 1 (.cons (.var 0) (.cons (.con (.int 3)) .nil)))) .nil))))) (.cons (.exp (.om 30 "add_line" (.var 1) (.cons (.var 3) (.cons (.var 5) (.cons (.var 4) (.cons (.ix (.ix (.ix (.var 2) (.con (.str "lines"))) (.var 3)) (.con (.int 2))) .nil)))))) .nil)) (.nil)) .nil))) (.nil)) .nil
theorem c31:FnScope N36 ["_law_bag_here", "_law_here", "_law_m", "_law_name_here"] (defScope (top 48)):=by walk_at "fs"
theorem c2k:CK N36 (top 48) b36:=by walk_at "ck"
def N37:List Str:=["_law_here", "_law_names_here", "_law_found", "_law_e"]
def b37:RSs:=.cons (.asg [2] true (.con .non)) (.cut (.tra (.cons (.asg [2] true (.call 35 (.cons (.var 0) (.cons (.var 1) .nil)))) .nil) 0 3 (.cons (.ret (.call 11 (.cons (.var 3) .nil))) .nil)) (.cons (.ret (.tup (.cons (.con (.str "told")) (.cons (.var 2) .nil)))) .nil))
theorem c32:FnScope N37 ["_law_here", "_law_names_here"] (defScope (top 44)):=by walk_at "fs"
theorem c2l:CK N37 (top 44) b37:=by walk_at "ck"
def N38:List Str:=["_law_bag_here", "_law_here", "_law_names_here", "_law_spoilt", "_law_one", "_law_other"]
def b38:RSs:=.cons (.asg [3] true (.call 1 (.cons (.var 0) (.cons (.con (.int 3)) .nil)))) (.cons (.asg [4] true (.ix (.lst false (.cons (.con .non) (.cons (.con (.int 5)) (.cons (.con (.str "a")) (.cons (.lst false (.nil)) .nil))))) (.call 1 (.cons (.var 0) (.cons (.con (.int 4)) .nil))))) (.cons (.asg [5] true (.call 28 (.cons (.var 0) (.cons (.var 2) .nil)))) (.cons (.ifs (.cmp .Eq (.var 3) (.con (.int 0))) (.cons (.ret (.cmp .Eq (.call 37 (.cons (.var 4) (.cons (.bi (.lst false) (.cons (.var 2) .nil)) .nil))) (.tup (.cons (.con (.str "Wrong")) (.cons (.con (.int 0)) .nil))))) .nil) (.nil)) (.cons (.ifs (.cmp .Eq (.var 3) (.con (.int 1))) (.cons (.ret (.cmp .Eq (.call 37 (.cons (.var 1) (.cons (.var 5) .nil))) (.tup (.cons (.con (.str "Wrong")) (.cons (.con (.int 1)) .nil))))) .nil) (.nil)) (.cons (.ret (.cmp .Eq (.call 37 (.cons (.var 4) (.cons (.var 5) .nil))) (.tup (.cons (.con (.str "Wrong")) (.cons (.con (.int 0)) .nil))))) .nil)))))
theorem c33:FnScope N38 ["_law_bag_here", "_law_here", "_law_names_here"] (defScope (top 49)):=by walk_at "fs"
theorem c2m:CK N38 (top 49) b38:=by walk_at "ck"
def N39:List Str:=["_law_script", "_law_bag_here", "_law_many", "_law_more", "_law_m", "_law_here", "_law_drains", "_law_name_here", "_law_very", "_law_odd", "_law_turn", "_law_names_here", "_law_k", "_law_again", "_law_handed", "_law_told", "_law_ends_here", "_law_due_here"]
def b39:RSs:=.cons (.asg [1] true (.call 0 (.cons (.var 0) .nil))) (.cons (.asg [2,3] false (.call 16 (.cons (.var 1) .nil))) (.cons (.asg [4] true (.call 33 (.cons (.var 1) (.cons (.var 2) (.cons (.var 3) .nil))))) (.cons (.asg [5] true (.call 34 (.cons (.var 4) .nil))) (.cons (.asl 6 (.lc false (.var 7) [7] true (.lst (.call 29 (.cons (.var 1) (.cons (.con (.int 2)) .nil)))) (.ss (.cmp .NotIn (.var 7) (.ix (.var 4) (.con (.str "lines"))))) [("_law_name_here",7)])) (.cons (.fr [7] true (.lst (.var 6)) (.cons (.exp (.om 24 "add_drain" (.var 5) (.cons (.var 7) (.cons (.ix (.ix (.var 4) (.con (.str "drawn"))) (.con (.int 0))) .nil)))) .nil)) (.cons (.asg [8] true (.lst true (.nil))) (.cons (.asg [9] true (.bin .Add (.bin .Add (.var 6) (.ix (.var 4) (.con (.str "drawn")))) (.lst false (.cons (.call 17 (.cons (.var 1) .nil)) (.cons (.call 17 (.cons (.var 1) .nil)) .nil))))) (.cons (.asg [9] true (.bin .Add (.var 9) (.lck (.lc false (.var 7) [7] true (.keys (.ix (.var 4) (.con (.str "lines")))) (.ss (.cmp .Eq (.ix (.ix (.ix (.var 4) (.con (.str "lines"))) (.var 7)) (.con (.int 2))) (.con (.int 0)))) [("_law_name_here",7)])))) (.cons (.fr [10] true (.rng1 (.con (.int 4))) (.cons (.asg [11] true (.call 31 (.cons (.var 1) (.cons (.var 4) .nil)))) (.cons (.fr [12] true (.rng1 (.ix (.lst false (.cons (.con (.int 0)) (.cons (.con (.int 1)) (.cons (.con (.int 2)) (.cons (.con (.int 0)) .nil))))) (.call 1 (.cons (.var 1) (.cons (.con (.int 4)) .nil))))) (.cons (.asg [7] true (.ix (.var 9) (.call 1 (.cons (.var 1) (.cons (.bi .len (.cons (.var 9) .nil)) .nil))))) (.cons (.ifs (.cmp .NotIn (.var 7) (.var 11)) (.cons (.exp (.mth .ins (.var 11) (.cons (.call 1 (.cons (.var 1) (.cons (.bin .Add (.bi .len (.cons (.var 11) .nil)) (.con (.int 1))) .nil))) (.cons (.var 7) .nil)))) .nil) (.nil)) .nil))) (.cons (.fr [13] true (.rng1 (.con (.int 2))) (.cons (.exp (.mth .clr (.var 8) (.nil))) (.cons (.exp (.mth .ext (.var 8) (.cons (.var 11) .nil))) (.cons (.asg [14] true (.ix (.lst false (.cons (.var 8) (.cons (.bi (.lst false) (.cons (.var 11) .nil)) .nil))) (.var 13))) (.cons (.ifs (.or (.cons (.nt (.call 8 (.cons (.call 37 (.cons (.var 5) (.cons (.var 14) .nil))) (.cons (.call 12 (.cons (.var 4) (.cons (.var 11) .nil))) .nil)))) (.cons (.cmp .NotEq (.var 14) (.var 11)) .nil))) (.cons (.ret (.con (.bl false))) .nil) (.nil)) .nil))))) (.frz 11 (.cut (.ifs (.and (.cons (.cmp .NotEq (.var 11) (.lst false (.nil))) (.cons (.cmp .Eq (.call 1 (.cons (.var 1) (.cons (.con (.int 2)) .nil))) (.con (.int 0))) .nil))) (.cons (.exp (.call 36 (.cons (.var 1) (.cons (.var 5) (.cons (.var 4) (.cons (.ix (.var 11) (.call 1 (.cons (.var 1) (.cons (.bi .len (.cons (.var 11) .nil)) .nil)))) .nil)))))) (.cons (.ifs (.nt (.call 8 (.cons (.call 37 (.cons (.var 5) (.cons (.bi (.lst false) (.cons (.var 11) .nil)) .nil))) (.cons (.call 12 (.cons (.var 4) (.cons (.var 11) .nil))) .nil)))) (.cons (.ret (.con (.bl false))) .nil) (.nil)) .nil)) (.nil)) (.cons (.ifs (.nt (.call 38 (.cons (.var 1) (.cons (.var 5) (.cons (.var 11) .nil))))) (.cons (.ret (.con (.bl false))) .nil) (.nil)) .nil))))))) (.cons (.asg [15] true (.lst false (.cons (.om 13 "rooms" (.var 5) (.nil)) (.cons (.om 10 "lines" (.var 5) (.nil)) (.cons (.om 14 "drains" (.var 5) (.nil)) (.cons (.om 15 "sources" (.var 5) (.nil)) (.cons (.lc false (.om 26 "line" (.var 5) (.cons (.var 7) .nil)) [7] true (.lst (.om 10 "lines" (.var 5) (.nil))) (.nn) [("_law_name_here",7)]) .nil))))))) (.cons (.asl 16 (.lc false (.ix (.ix (.var 4) (.con (.str "lines"))) (.var 7)) [7] true (.lst (.bi (.srt false) (.cons (.ix (.var 4) (.con (.str "lines"))) .nil))) (.nn) [("_law_name_here",7)])) (.cons (.asg [17] true (.lst false (.cons (.ix (.var 4) (.con (.str "rooms"))) (.cons (.bi (.srt false) (.cons (.ix (.var 4) (.con (.str "lines"))) .nil)) (.cons (.bi (.srt false) (.cons (.var 6) .nil)) (.cons (.ix (.var 4) (.con (.str "sources"))) (.cons (.var 16) .nil))))))) (.cons (.ret (.and (.cons (.call 8 (.cons (.var 15) (.cons (.var 17) .nil))) (.cons (.call 8 (.cons (.call 35 (.cons (.mk 2 (.nil)) (.cons (.lst false (.nil)) .nil))) (.cons (.con (.int 0)) .nil))) .nil)))) .nil)))))))))))))
theorem c34:FnScope N39 ["_law_script"] (defScope (top 50)):=by walk_at "fs"
theorem c2n:CK N39 (top 50) b39:=by walk_at "ck"
theorem whole (facts : ∀ {P : Program} {w : World} {K : zbj} {h : Heap} {mg : Str → Option Value} {f : Addr} (X : K.In h) (G : h.Ns mainGlobals mg) (hfa : mg ("law" : Str) = some (.ref f)) (c : SaysX fa fn fx K),
    ∃ fd : FuncData, (∀ (s : Shared) (v : Value), BindsTo s fd ⟨[v], []⟩ [("_law_script", v)]) ∧ ∀ base : Heap, K.In base → base.Ns mainGlobals mg → FnG P w K mg base false 16 f fd ["_law_script"] (spD ⟨K⟩ (lawT 63))) : PySem.Challenge.rw_stillmain_k41_cost_of.Holds := by
  open PySem.W PySem.Calls in
  (w_on; o_law
   refine HandSHeadRun.head_any (r := OpenLaw.row PySem.Challenge.rw_stillmain_k41_cost_of) (q := view (OpenLaw.row PySem.Challenge.rw_stillmain_k41_cost_of).prog [50]) (H := Cl.hk) (ob := Cl.ob) (M := 20000) (loose := Cl.names) (d := HandSHeadRun.topDef (OpenLaw.row PySem.Challenge.rw_stillmain_k41_cost_of).prog 50) (kwd := []) Cl.ob_eq
     (by kernel_rfl) (fun s => by kernel_rfl) Cl.run (by kernel_rfl) (by kernel_rfl) (by kernel_rfl) (by rfl) (by first | assumption | decide +kernel) (by decide +kernel) ⟨rfl, rfl, rfl, rfl, rfl, by decide +kernel⟩ ?hw ?hc
   case hw => w_witness2
   case hc =>
     refine Sv.walk_ofG (l := PySem.Challenge.rw_stillmain_k41_cost_of) (n := 63) (k := 16) (x := "_law_script") rfl (by decide) (by kernel_rfl) ⟨by decide, by decide⟩ ?F
     intro w mg fa h Y G hmg0
     obtain ⟨K, KX, c⟩ := Y
     have hmg : mg ("law" : PySem.Str) = some (.ref fa) := by
       have e : (HandSHeadRun.topDef (OpenLaw.row PySem.Challenge.rw_stillmain_k41_cost_of).prog 50).name = ("law" : PySem.Str) := by kernel_rfl
       rw [← e]
       exact hmg0
     obtain ⟨fd, hb, hF⟩ := facts (P := (PySem.Challenge.rw_stillmain_k41_cost_of).prog) (w := w) KX G hmg c
     exact ⟨K, fd, Sv.spD ⟨K⟩ (Sv.lawT 63), KX, hb, fun H a ns hl hS => Sv.law_sp hl hS, hF⟩)
def b1e (x y z:Int) (cells:List Int):List D:=[.int x,.int y,.int z,.lst (cells.map .int)]
def c0Z (x y z:Int) (cells:List Int):Prop:=0≤x∧0≤y∧y < 2147483647∧0≤z∧∀ i∈cells,0≤i
def a0w (c:Cell):Prop:=∃ (x y z:Int) (cells:List Int),c=.lst (b1e x y z cells)∧c0Z x y z cells
def a0v:TR:=fun m ds S K Y=>m=none∧∃ b n c,ds=[.obj b,.int n]∧0 < n∧n.natAbs.log2 < 4000∧S b=some c∧a0w c∧∀ v c',0≤v→v < n→a0w c'→K (.int v) (S.set b c')
def b7A:TR:=fun m ds S K Y=>m=none∧∃ ns:List Int,ds=[.lst (ns.map .int)]∧∀ p c,S p=none→a0w c→K (.obj p) (S.set p c)
def Nm (z:Str):Prop:=z.cps.toList.length≤8∧1≤z.cps.toList.length∧∀ c∈z.cps.toList,97≤c∧c≤122
instance (z:Str):Decidable (Nm z):=by unfold Nm;infer_instance
theorem Nm.fine {z:Str} (h:Nm z):fine z=true:=by
 unfold Sv.fine PyData.strOk
 rw [← Array.all_toList,List.all_eq_true]
 intro c hc
 have:=(h.2.2 c hc).2
 exact zbg (by omega)
theorem Nm.len {z:Str} (h:Nm z):z.length≤8∧1≤z.length:=by
 have e:z.length=z.cps.toList.length:=by rw [Array.length_toList];rfl
 rw [e]
 exact ⟨h.1,h.2.1⟩
def a77:TR:=fun m ds S K Y=>m=none∧∃ b c,ds=[.obj b]∧S b=some c∧a0w c∧∀ z c',Nm z→a0w c'→K (.str z) (S.set b c')
structure Lay where
 rooms:List (Str × Unit)
 lines:List (Str × Str × Str × Int)
 drains:List (Str × Str)
 pushed:List (Str × Unit)
 tw:Bool
def fU:Unit→D:=fun _=>.bl true
def fL:Str × Str × Int→D:=fun p=>.tup [.str p.1,.str p.2.1,.int p.2.2]
def fS:Str→D:=.str
def nms {α:Type} (l:List (Str × α)):List Str:=l.map (·.1)
inductive a6D where
 | room (z:Str) | line (l x y:Str) (n:Int) | drain (d r:Str) | source (z:Str) | takeR (z:Str) | takeL (z:Str) | takeD (z:Str) | takeS (z:Str)
def a6D.d:a6D→D
 | .room z=>.tup [.str "add_room",.str z]
 | .line l x y n=>.tup [.str "add_line",.str l,.str x,.str y,.int n]
 | .drain d r=>.tup [.str "add_drain",.str d,.str r]
 | .source z=>.tup [.str "add_source",.str z]
 | .takeR z=>.tup [.str "take_room",.str z]
 | .takeL z=>.tup [.str "take_line",.str z]
 | .takeD z=>.tup [.str "take_drain",.str z]
 | .takeS z=>.tup [.str "take_source",.str z]
def a6D.Ok:a6D→Prop
 | .room z=>Nm z
 | .line l x y n=>Nm l∧Nm x∧Nm y∧y≠x∧0≤n∧n≤99
 | .drain d r=>Nm d∧Nm r
 | .source z=>Nm z
 | .takeR z=>Nm z | .takeL z=>Nm z | .takeD z=>Nm z | .takeS z=>Nm z
inductive Rf where
 | there (z:Str) | lacks (z:Str) | many (n:Int) | inuse (z:Str) | wrong (i:Int)
def Rf.cls:Rf→Str
 | .there _ => "There" | .lacks _ => "Lacks" | .many _ => "TooMany" | .inuse _ => "InUse" | .wrong _ => "Wrong"
def Rf.v:Rf→D
 | .there z=>.str z | .lacks z=>.str z | .many n=>.int n | .inuse z=>.str z | .wrong i=>.int i
def Rf.fs:Rf→List (Str × D)
 | .there z=>[("name",.str z)] | .lacks z=>[("name",.str z)] | .many n=>[("most",.int n)] | .inuse z=>[("name",.str z)] | .wrong i=>[("at",.int i)]
def atR (st:Lay) (z:Str):List Str:=nms (st.lines.filter fun q=>decide (z∈[q.2.1,q.2.2.1]))
def without {α:Type} (l:List (Str × α)) (z:Str):List (Str × α):=l.filter fun q=>decide (q.1≠z)
def a0A (st:Lay):List Str→Option Rf
 | []=>none
 | z :: r=>if z∈nms st.rooms then a0A st r else some (.lacks z)
def due (st:Lay):a6D→Option Rf
 | .room z=>if z∈nms st.rooms then some (.there z) else if st.rooms.length=24 then some (.many 24) else none
 | .source z=>if z∈nms st.rooms then (if z∈nms st.pushed then some (.there z) else none) else some (.lacks z)
 | .line l x y _=>if l∈nms st.lines∨l∈nms st.drains then some (.there l) else (a0A st [x,y]).or (if st.lines.length=40 then some (.many 40) else none)
 | .drain d r=>if d∈nms st.lines∨d∈nms st.drains then some (.there d) else (a0A st [r]).or (if st.drains.length=12 then some (.many 12) else none)
 | .takeL z=>if z∈nms st.lines then none else some (.lacks z)
 | .takeD z=>if z∈nms st.drains then none else some (.lacks z)
 | .takeS z=>if z∈nms st.pushed then none else some (.lacks z)
 | .takeR z=>if z∈nms st.rooms then (if atR st z≠[]∨z∈st.drains.map (·.2)∨z∈nms st.pushed then some (.inuse z) else none) else some (.lacks z)
def c08 (st:Lay):a6D→Lay
 | .room z=>{ st with rooms:=st.rooms ++ [(z,())] }
 | .line l x y n=>{ st with lines:=st.lines ++ [(l,x,y,n)] }
 | .drain d r=>{ st with drains:=st.drains ++ [(d,r)] }
 | .source z=>{ st with pushed:=st.pushed ++ [(z,())] }
 | .takeR z=>{ st with rooms:=without st.rooms z }
 | .takeL z=>{ st with lines:=without st.lines z }
 | .takeD z=>{ st with drains:=without st.drains z }
 | .takeS z=>{ st with pushed:=without st.pushed z }
theorem a2d {α:Type} {l:List (Str × α)} {z:Str}:(without l z).length≤l.length:=zbb _ _
theorem a3R {α:Type} {l:List (Str × α)} {z:Str} {q:Str × α} (h:q∈without l z):q∈l:=(zay.mp h).1
theorem a1n {α:Type} {l:List (Str × α)} {z:Str}:nms (without l z)=(nms l).filter fun w=>decide (w≠z):=by
 unfold nms without
 rw [List.filter_map]
 rfl
structure Ok (n:Nat) (st:Lay):Prop where
 r:st.rooms.length≤24
 l:st.lines.length≤40
 d:st.drains.length≤12
 up:(nms st.pushed).Nodup
 nr:∀ q∈st.rooms,Nm q.1
 nl:∀ q∈st.lines,Nm q.1∧Nm q.2.1∧Nm q.2.2.1∧0≤q.2.2.2∧q.2.2.2≤99
 nd:∀ q∈st.drains,Nm q.1∧Nm q.2
 np:∀ q∈st.pushed,Nm q.1
 ul:(nms st.lines).Nodup
 sub:∀ z∈nms st.pushed,z∈nms st.rooms
theorem a2p {l:List Str}:∀ {r:List Str},l.Nodup→(∀ z∈l,z∈r)→l.length≤r.length:=by
 induction l with
 | nil=>intro r _ _;exact Nat.zero_le _
 | cons a l ih =>
  intro r u s
  have ha:a∈r:=s a zal
  have h:=ih (r:=r.erase a) (zbd.mp u).2 fun z hz=>(List.mem_erase_of_ne (fun e=>(zbd.mp u).1 (by rw [← e];exact hz))).mpr (s z (zao _ hz))
  rw [List.length_erase_of_mem ha] at h
  have:=List.length_pos_of_mem ha
  rw [zaz]
  omega
theorem Ok.p {n:Nat} {st:Lay} (h:Ok n st):st.pushed.length≤24:=by
 have:=a2p h.up h.sub
 unfold nms at this
 rw [zag,zag] at this
 exact Nat.le_trans this h.r
def b8X (C a b c d:Addr):Cell:=.ins C [("by_room",.obj a),("ends_of",.obj b),("seat_of",.obj c),("pushed",.obj d)]
def mK (sm:Lay) (e f:Addr):List (Key × D) :=
 if sm.tw=true then [(.inr "rooms",.lst ((a0i (nms sm.rooms)).map D.str)),(.inr "sources",.lst ((a0i (nms sm.pushed)).map D.str)),(.inr "lines",.obj e),(.inr "drains",.obj f)] else [(.inr "rooms",.lst ((a0i (nms sm.rooms)).map D.str)),(.inr "lines",.obj e),(.inr "drains",.obj f),(.inr "sources",.lst ((a0i (nms sm.pushed)).map D.str))]
structure a2e (C:Addr) (S:SS) (L a b c d:Addr) (st:Lay):Prop where
 L:S L=some (b8X C a b c d)
 a:S a=some (.dic (a0B fU st.rooms))
 b:S b=some (.dic (a0B fL st.lines))
 c:S c=some (.dic (a0B fS st.drains))
 d:S d=some (.dic (a0B fU st.pushed))
structure Ad where
 (g L a b c d M e f:Addr)
def Ad.l (A:Ad):List Addr:=[A.g,A.L,A.a,A.b,A.c,A.d,A.M,A.e,A.f]
def put (C:Addr) (S0:SS) (A:Ad) (st sm:Lay) (cb:Cell):SS:=fun q =>
 if q=A.g then some cb else if q=A.L then some (b8X C A.a A.b A.c A.d) else if q=A.a then some (.dic (a0B fU st.rooms)) else if q=A.b then some (.dic (a0B fL st.lines)) else
 if q=A.c then some (.dic (a0B fS st.drains)) else if q=A.d then some (.dic (a0B fU st.pushed)) else if q=A.M then some (.dic (mK sm A.e A.f)) else
 if q=A.e then some (.dic (a0B fL sm.lines)) else if q=A.f then some (.dic (a0B fS sm.drains)) else S0 q
section
variable {C:Addr} {S0:SS} {A:Ad} {st sm:Lay} {cb:Cell}
structure Apart (A:Ad):Prop where
 (gL:A.g≠A.L) (ga:A.g≠A.a) (gb:A.g≠A.b) (gc:A.g≠A.c) (gd:A.g≠A.d) (gM:A.g≠A.M) (ge:A.g≠A.e) (gf:A.g≠A.f)
 (La:A.L≠A.a) (Lb:A.L≠A.b) (Lc:A.L≠A.c) (Ld:A.L≠A.d) (LM:A.L≠A.M) (Le:A.L≠A.e) (Lf:A.L≠A.f)
 (ab:A.a≠A.b) (ac:A.a≠A.c) (ad:A.a≠A.d) (aM:A.a≠A.M) (ae:A.a≠A.e) (af:A.a≠A.f)
 (bc:A.b≠A.c) (bd:A.b≠A.d) (bM:A.b≠A.M) (be:A.b≠A.e) (bf:A.b≠A.f)
 (cd:A.c≠A.d) (cM:A.c≠A.M) (ce:A.c≠A.e) (cf:A.c≠A.f)
 (dM:A.d≠A.M) (de:A.d≠A.e) (df:A.d≠A.f)
 (Me:A.M≠A.e) (Mf:A.M≠A.f) (ef:A.e≠A.f)
theorem b0A (h:Apart A) {x:List (Str × Str × Str × Int)}:(put C S0 A st sm cb).set A.b (.dic (a0B fL x))=put C S0 A { st with lines:=x } sm cb:=by
 funext q
 unfold SS.set put
 by_cases e:q=A.b
 ·simp [e,h.gb.symm,h.Lb.symm,h.ab.symm]
 ·simp [e]
end
structure Wo where
 rooms:List Str
 lines:List (Str × Str × Str × Int)
 drains:List (Str × Str)
 srcs:List Str
structure a2f (w:Wo):Prop where
 r:w.rooms.length≤24
 rn:∀ z∈w.rooms,Nm z
 ru:w.rooms.Nodup
 l:w.lines.length≤40
 ln:∀ q∈w.lines,Nm q.1∧q.2.1∈w.rooms∧q.2.2.1∈w.rooms∧q.2.2.1≠q.2.1∧0≤q.2.2.2∧q.2.2.2≤99
 lu:(nms w.lines).Nodup
 d:w.drains.length≤12
 dn:∀ q∈w.drains,Nm q.1∧q.2∈w.rooms
 du:(nms w.drains).Nodup
 ld:∀ z∈nms w.lines,z∉nms w.drains
 s:∀ z∈w.srcs,z∈w.rooms
 su:w.srcs.Nodup
def units (zs:List Str):List (Str × Unit):=zs.map fun z=>(z,())
theorem a0j {zs:List Str}:nms (units zs)=zs:=by
 unfold nms units
 rw [zat]
 exact List.map_id' _
def Wo.lay (w:Wo):Lay:=⟨units w.rooms,w.lines,w.drains,units w.srcs,false⟩
theorem a2f.ok {w:Wo} (h:a2f w):Ok 0 w.lay:=by
 refine ⟨by show (units w.rooms).length≤24;unfold units;rw [zag];exact h.r,h.l,h.d,by show (nms (units w.srcs)).Nodup;rw [a0j];exact h.su,fun q hq=>?_,fun q hq=>?_,fun q hq=>?_,fun q hq=>?_,h.lu,fun z hz=>?_⟩
 ·obtain ⟨z,hz,rfl⟩:=zan.mp hq
  exact h.rn z hz
 ·obtain ⟨a,b,c,_,d,e⟩:=h.ln q hq
  exact ⟨a,h.rn _ b,h.rn _ c,d,e⟩
 ·obtain ⟨a,b⟩:=h.dn q hq
  exact ⟨a,h.rn _ b⟩
 ·obtain ⟨z,hz,rfl⟩:=zan.mp hq
  exact h.rn z (h.s z hz)
 ·have hz:z∈nms (units w.srcs):=hz
  show z∈nms (units w.rooms)
  rw [a0j] at hz ⊢
  exact h.s z hz
def a7Z (q:Str × Str × Str × Int) (x y:Str):Prop:=(q.2.1=x∧q.2.2.1=y)∨(q.2.2.1=x∧q.2.1=y)
def Adj (w:Wo) (shut:List Str) (x y:Str):Prop:=∃ q∈w.lines,q.1∉shut∧a7Z q x y
theorem Adj.symm {w:Wo} {shut:List Str} {x y:Str} (h:Adj w shut x y):Adj w shut y x:=by
 obtain ⟨q,hq,hs,h⟩:=h
 exact ⟨q,hq,hs,h.elim (fun h=>.inr ⟨h.2,h.1⟩) fun h=>.inl ⟨h.2,h.1⟩⟩
theorem Adj.room {w:Wo} {shut:List Str} {x y:Str} (ok:a2f w) (h:Adj w shut x y):y∈w.rooms:=by
 obtain ⟨q,hq,_,h⟩:=h
 have:=ok.ln q hq
 rcases h with ⟨_,rfl⟩ | ⟨_,rfl⟩
 ·exact this.2.2.1
 ·exact this.2.1
inductive Lev (w:Wo) (shut rs:List Str):Nat→Str→Prop where
 | zero {z:Str}:z∈rs→Lev w shut rs 0 z
 | succ {n:Nat} {x y:Str}:Lev w shut rs n x→Adj w shut x y→Lev w shut rs (n + 1) y
def Reach (w:Wo) (shut rs:List Str) (z:Str):Prop:=∃ n,Lev w shut rs n z
theorem Reach.base {w:Wo} {shut rs:List Str} {z:Str} (h:z∈rs):Reach w shut rs z:=⟨0,.zero h⟩
theorem Reach.step {w:Wo} {shut rs:List Str} {x y:Str} (h:Reach w shut rs x) (a:Adj w shut x y):Reach w shut rs y:=by
 obtain ⟨n,h⟩:=h
 exact ⟨n + 1,h.succ a⟩
theorem Reach.least {w:Wo} {shut rs:List Str} {P:Str→Prop} (h0:∀ z∈rs,P z) (h1:∀ x y,P x→Adj w shut x y→P y) {z:Str} (h:Reach w shut rs z):P z:=by
 obtain ⟨n,h⟩:=h
 induction h with
 | zero h=>exact h0 _ h
 | succ _ a ih=>exact h1 _ _ ih a
theorem Reach.room {w:Wo} {shut rs:List Str} (ok:a2f w) (sub:∀ z∈rs,z∈w.rooms) {z:Str} (h:Reach w shut rs z):z∈w.rooms:=h.least sub fun _ _ _ a=>a.room ok
structure a6E (w:Wo) (shut rs:List Str) (R:List (Str × Nat)):Prop where
 u:(nms R).Nodup
 lev:∀ q∈R,Lev w shut rs q.2 q.1
 all:∀ m z,Lev w shut rs m z→∃ d,(z,d)∈R∧d≤m
theorem a6E.iff {w:Wo} {shut rs:List Str} {R:List (Str × Nat)} (h:a6E w shut rs R) {z:Str}:z∈nms R↔Reach w shut rs z:=by
 constructor
 ·intro hz
  obtain ⟨q,hq,rfl⟩:=zan.mp hz
  exact ⟨_,h.lev q hq⟩
 ·rintro ⟨n,hz⟩
  obtain ⟨d,hd,_⟩:=h.all n z hz
  exact zan.mpr ⟨_,hd,rfl⟩
structure Bfs (w:Wo) (shut rs:List Str) (R:List (Str × Nat)) (at_:Nat) (P:List Str):Prop where
 u:(nms R).Nodup
 lev:∀ q∈R,Lev w shut rs q.2 q.1
 up:R.Pairwise fun p q=>p.2≤q.2
 base:∀ z∈rs,(z,0)∈R
 near:∀ p,R[at_]?=some p→∀ q∈R,q.2≤p.2 + 1
 done:∀ j p,j < at_→R[j]?=some p→∀ y,Adj w shut p.1 y→∃ d,(y,d)∈R∧d≤p.2 + 1
 part:∀ p,R[at_]?=some p→∀ q∈w.lines,q.1∈P→q.1∉shut→∀ y,a7Z q p.1 y→∃ d,(y,d)∈R∧d≤p.2 + 1
section
variable {w:Wo} {shut rs:List Str} {R:List (Str × Nat)} {k:Nat} {P:List Str}
theorem Bfs.start (u:rs.Nodup):Bfs w shut rs (rs.map fun z=>(z,0)) 0 []:=by
 have e:nms (rs.map fun z=>(z,0))=rs:=by
  unfold nms
  rw [zat]
  exact List.map_id' _
 refine ⟨by rw [e];exact u,fun q hq=>?_,?_,fun z hz=>zan.mpr ⟨z,hz,rfl⟩,fun p _ q hq=>?_,fun j _ hj=>absurd hj (Nat.not_lt_zero _),fun _ _ _ _ h=>absurd h zba⟩
 ·obtain ⟨z,hz,rfl⟩:=zan.mp hq
  exact .zero hz
 ·rw [List.pairwise_map]
  exact List.pairwise_of_forall fun _ _=>Nat.le_refl _
 ·obtain ⟨z,hz,rfl⟩:=zan.mp hq
  exact Nat.zero_le _
theorem Bfs.skip {l:Str} (h:Bfs w shut rs R k P) (here:∀ p,R[k]?=some p→∀ q∈w.lines,q.1=l→q.1∉shut→∀ y,a7Z q p.1 y→y∈nms R):Bfs w shut rs R k (P ++ [l]):=by
 refine ⟨h.u,h.lev,h.up,h.base,h.near,h.done,fun p hp q hq hl hs y hy=>?_⟩
 rcases zap.mp hl with hl | hl
 ·exact h.part p hp q hq hl hs y hy
 ·obtain ⟨⟨z,d⟩,hd,rfl⟩:=zan.mp (here p hp q hq (zaj.mp hl) hs y hy)
  exact ⟨d,hd,h.near p hp _ hd⟩
theorem Bfs.add {l there:Str} {p:Str × Nat} (h:Bfs w shut rs R k P) (hp:R[k]?=some p) (adj:Adj w shut p.1 there) (new:there∉nms R) (only:∀ q∈w.lines,q.1=l→∀ y,a7Z q p.1 y→y=there) :
  Bfs w shut rs (R ++ [(there,p.2 + 1)]) k (P ++ [l]):=by
 have hk:k < R.length:=(List.getElem?_eq_some_iff.mp hp).1
 have at_k:(R ++ [(there,p.2 + 1)])[k]?=some p:=by rw [List.getElem?_append_left hk];exact hp
 have old:∀ {y d},(y,d)∈R→(y,d)∈R ++ [(there,p.2 + 1)]:=fun h=>zar _ h
 refine ⟨?_,fun q hq=>?_,?_,fun z hz=>old (h.base z hz),fun p' hp' q hq=>?_,fun j p' hj hp' y hy=>?_,fun p' hp' q hq hl hs y hy=>?_⟩
 ·unfold nms
  rw [zav]
  refine List.nodup_append.mpr ⟨h.u,by simp,fun a ha b hb e=>new ?_⟩
  have hb:b=there:=by simpa using hb
  rw [← hb,← e]
  exact ha
 ·rcases zap.mp hq with hq | hq
  ·exact h.lev q hq
  ·cases zaj.mp hq
   exact (h.lev p (zaq hp)).succ adj
 ·refine List.pairwise_append.mpr ⟨h.up,List.pairwise_singleton _ _,fun a ha b hb=>?_⟩
  cases zaj.mp hb
  exact h.near p hp a ha
 ·rw [at_k] at hp'
  cases hp'
  rcases zap.mp hq with hq | hq
  ·exact h.near p hp q hq
  ·cases zaj.mp hq
   exact Nat.le_refl _
 ·rw [List.getElem?_append_left (by omega)] at hp'
  obtain ⟨d,hd,l⟩:=h.done j p' hj hp' y hy
  exact ⟨d,old hd,l⟩
 ·rw [at_k] at hp'
  cases hp'
  rcases zap.mp hl with hl | hl
  ·obtain ⟨d,hd,l⟩:=h.part p hp q hq hl hs y hy
   exact ⟨d,old hd,l⟩
  ·cases only q hq (zaj.mp hl) y hy
   exact ⟨p.2 + 1,zas _ (zaj.mpr rfl),Nat.le_refl _⟩
theorem Bfs.next {p:Str × Nat} (h:Bfs w shut rs R k P) (hp:R[k]?=some p) (all:∀ q∈w.lines,∀ y,a7Z q p.1 y→q.1∈P):Bfs w shut rs R (k + 1) []:=by
 refine ⟨h.u,h.lev,h.up,h.base,fun p' hp' q hq=>?_,fun j p' hj hp' y hy=>?_,fun _ _ _ _ h=>absurd h zba⟩
 ·have hlt:=(List.getElem?_eq_some_iff.mp hp').1
  have e1:R[k]'(by omega)=p:=Option.some.inj ((zbi (by omega)).symm.trans hp)
  have e2:R[k + 1]=p':=Option.some.inj ((zbi hlt).symm.trans hp')
  have:=List.pairwise_iff_getElem.mp h.up k (k + 1) (by omega) hlt (by omega)
  rw [e1,e2] at this
  have:=h.near p hp q hq
  omega
 ·by_cases e:j=k
  ·subst e
   rw [hp] at hp'
   cases hp'
   obtain ⟨q,hq,hs,hy⟩:=hy
   exact h.part p hp q hq (all q hq y hy) hs y hy
  ·exact h.done j p' (by omega) hp' y hy
theorem Bfs.few (ok:a2f w) (sub:∀ z∈rs,z∈w.rooms) (h:Bfs w shut rs R k P):R.length≤24:=by
 have e:(nms R).length=R.length:=zag ..
 rw [← e]
 refine Nat.le_trans (a2p h.u fun z hz=>?_) ok.r
 obtain ⟨q,hq,rfl⟩:=zan.mp hz
 exact Reach.room (w:=w) (shut:=shut) ok sub ⟨_,h.lev q hq⟩
end
noncomputable instance (w:Wo) (shut rs:List Str) (z:Str):Decidable (Reach w shut rs z):=Classical.propDecidable _
theorem a9o {a b:List Str} (ua:a.Nodup) (ub:b.Nodup) (h:∀ z,z∈a↔z∈b):a0i a=a0i b:=by
 have p:a.Perm b:=(List.perm_ext_iff_of_nodup ua ub).mpr h
 have p1:(a0i a).Pairwise fun a b=>leS a b=true:=List.pairwise_mergeSort a2r (fun a b=>by have:=a3v a b;simpa using this) a
 have p2:(a0i b).Pairwise fun a b=>leS a b=true:=List.pairwise_mergeSort a2r (fun a b=>by have:=a3v a b;simpa using this) b
 exact List.Perm.eq_of_pairwise (fun a b _ _ h k=>a6V h k) p1 p2 (((List.mergeSort_perm a leS).trans p).trans (List.mergeSort_perm b leS).symm)
structure Grow (w:Wo) (shut rs ks:List Str):Prop where
 u:ks.Nodup
 base:∀ z∈rs,z∈ks
 in_:∀ z∈ks,Reach w shut rs z
theorem Grow.start {w:Wo} {shut rs:List Str} (u:rs.Nodup):Grow w shut rs rs:=⟨u,fun _ h=>h,fun _ h=>.base h⟩
theorem Grow.add {w:Wo} {shut rs ks:List Str} {x y:Str} (h:Grow w shut rs ks) (hx:x∈ks) (a:Adj w shut x y) (new:y∉ks):Grow w shut rs (ks ++ [y]):=by
 refine ⟨List.nodup_append.mpr ⟨h.u,by simp,fun a ha b hb e=>new ?_⟩,fun z hz=>zar _ (h.base z hz),fun z hz=>?_⟩
 ·rw [← zaj.mp hb,← e];exact ha
 ·rcases zap.mp hz with hz | hz
  ·exact h.in_ z hz
  ·cases zaj.mp hz
   exact (h.in_ x hx).step a
theorem Grow.few {w:Wo} {shut rs ks:List Str} (ok:a2f w) (sub:∀ z∈rs,z∈w.rooms) (h:Grow w shut rs ks):ks.length≤24 :=
 Nat.le_trans (a2p h.u fun z hz=>(h.in_ z hz).room ok sub) ok.r
theorem Grow.done {w:Wo} {shut rs ks:List Str} (h:Grow w shut rs ks) (shutOff:∀ q∈w.lines,q.1∉shut→(q.2.1∈ks↔q.2.2.1∈ks)):∀ z,z∈ks↔Reach w shut rs z:=fun z =>
 ⟨h.in_ z,fun r=>r.least h.base fun x y hx a=>by
  obtain ⟨q,hq,hs,⟨rfl,rfl⟩ | ⟨rfl,rfl⟩⟩:=a
  ·exact (shutOff q hq hs).mp hx
  ·exact (shutOff q hq hs).mpr hx⟩
section
variable {w:Wo} {shut:List Str}
theorem Lev.trans {rs:List Str} {x:Str} {n:Nat} {y:Str} (h:Lev w shut [x] n y) (hx:Reach w shut rs x):Reach w shut rs y:=by
 induction h with
 | zero h=>cases zaj.mp h;exact hx
 | succ _ a ih=>exact ih.step a
theorem Reach.trans {rs:List Str} {x y:Str} (h:Reach w shut [x] y) (hx:Reach w shut rs x):Reach w shut rs y:=by
 obtain ⟨n,h⟩:=h
 exact h.trans hx
theorem Reach.self {x:Str}:Reach w shut [x] x:=.base (zaj.mpr rfl)
theorem Reach.symm {x y:Str} (h:Reach w shut [x] y):Reach w shut [y] x:=by
 obtain ⟨n,h⟩:=h
 induction h with
 | zero h=>cases zaj.mp h;exact .self
 | @succ n u v _ a ih =>
  exact ih.trans (Reach.self.step a.symm)
theorem Reach.one {rs:List Str} {y:Str}:Reach w shut rs y↔∃ x∈rs,Reach w shut [x] y:=by
 constructor
 ·intro h
  exact Reach.least (P:=fun y=>∃ x∈rs,Reach w shut [x] y) (fun z hz=>⟨z,hz,.self⟩) (fun u v ⟨x,hx,h⟩ a=>⟨x,hx,h.step a⟩) h
 ·rintro ⟨x,hx,h⟩
  exact h.trans (.base hx)
theorem a5G {zs:List Str} {z:Str}:z∈a0i zs↔z∈zs:=(List.mergeSort_perm zs leS).mem_iff
theorem a7m {zs:List Str} (h:zs.Nodup):(a0i zs).Nodup:=(List.mergeSort_perm zs leS).nodup_iff.mpr h
end
abbrev Lms:=List (Str × Str × Str × Option Int)
structure b3s (lm:Lms):Prop where
 u:(nms lm).Nodup
 ne:∀ q∈lm,q.2.1≠q.2.2.1
 c:∀ q∈lm,∀ c,q.2.2.2=some c→0 < c∧c≤99
 few:lm.length≤40
 nm:∀ q∈lm,Nm q.1∧Nm q.2.1∧Nm q.2.2.1
def ind (X:List Str) (r:Str):Int:=if r∈X then 1 else 0
def a6v {α:Type} (l:List α) (f:α→Int):Int:=match l with
 | []=>0
 | a :: l=>f a + a6v l f
def net (lm:Lms) (u:Str→Int) (X:List Str):Int:=a6v lm fun q=>(ind X q.2.2.1 - ind X q.2.1) * u q.1
def b8n (q:Str × Str × Str × Option Int) (u:Str→Int):Prop:=∀ c,q.2.2.2=some c→0 < c - u q.1
def b1s (q:Str × Str × Str × Option Int) (u:Str→Int):Prop:=∀ c,q.2.2.2=some c→0 < c + u q.1
def Arc (lm:Lms) (u:Str→Int) (x l y:Str):Prop:=∃ q∈lm,q.1=l∧((q.2.1=x∧q.2.2.1=y∧b8n q u)∨(q.2.2.1=x∧q.2.1=y∧b1s q u))
abbrev Stp:=Str × Str × Str
def a70 (lm:Lms) (s:Stp):Prop:=∃ q∈lm,q.1=s.2.1∧((q.2.1=s.1∧q.2.2.1=s.2.2)∨(q.2.2.1=s.1∧q.2.1=s.2.2))
def oneOf (lm:Lms) (l:Str):Str:=match lm.lookup l with
 | some q=>q.1
 | none => ""
def a0Y (lm:Lms) (amt:Int) (u:Str→Int) (s:Stp):Str→Int:=fun l=>if l=s.2.1 then (if s.1=oneOf lm l then u l + amt else u l - amt) else u l
def a2O (lm:Lms) (amt:Int) (u:Str→Int) (st:List Stp):Str→Int:=st.foldl (a0Y lm amt) u
inductive Chain (P:Stp→Prop):Str→List Stp→Str→Prop where
 | nil {x:Str}:Chain P x [] x
 | cons {x l y z:Str} {st:List Stp}:P (x,l,y)→Chain P y st z→Chain P x ((x,l,y) :: st) z
section
variable {α:Type} {lm:Lms} {u v:Str→Int} {X Y T Z:List Str} {r x y l:Str} {st:List Stp} {amt:Int}
theorem a2M {l:List α} {f g:α→Int} (h:∀ a∈l,f a=g a):a6v l f=a6v l g:=by
 induction l with
 | nil=>rfl
 | cons a l ih =>
  unfold a6v
  rw [h a zal,ih fun b hb=>h b (zao _ hb)]
theorem a7o {l:List α} {f g:α→Int}:a6v l (fun a=>f a + g a)=a6v l f + a6v l g:=by
 induction l with
 | nil=>rfl
 | cons a l ih=>unfold a6v;rw [ih];omega
theorem a9z {l:List α} {f:α→Int} (h:∀ a∈l,f a=0):a6v l f=0:=by
 induction l with
 | nil=>rfl
 | cons a l ih =>
  unfold a6v
  rw [h a zal,ih fun b hb=>h b (zao _ hb)]
  rfl
theorem b0H {l:List (Str × α)} (un:(nms l).Nodup) {q:Str × α} (hq:q∈l) {f:Str × α→Int} (h:∀ p∈l,p.1≠q.1→f p=0):a6v l f=f q:=by
 induction l with
 | nil=>cases hq
 | cons a l ih =>
  have un2:a.1∉nms l∧(nms l).Nodup:=zbd.mp un
  unfold a6v
  rcases zau.mp hq with rfl | hq
  ·rw [a9z fun p hp=>h p (zao _ hp) fun e=>un2.1 (by rw [← e];exact zan.mpr ⟨p,hp,rfl⟩)]
   omega
  ·rw [h a zal fun e=>un2.1 (by rw [e];exact zan.mpr ⟨q,hq,rfl⟩),ih un2.2 hq fun p hp=>h p (zao _ hp)]
   omega
theorem a2P (h:r∈X):ind X r=1:=if_pos h
theorem a00 (h:r∉X):ind X r=0:=if_neg h
theorem a8X (h:∀ z,z∈X↔z∈Y):net lm u X=net lm u Y:=by
 have e:∀ z,ind X z=ind Y z:=fun z=>by
  unfold ind
  by_cases hz:z∈X
  ·rw [if_pos hz,if_pos ((h z).mp hz)]
  ·rw [if_neg hz,if_neg fun k=>hz ((h z).mpr k)]
 unfold net
 simp only [e]
theorem a67 (h:r∉Y):net lm u (r :: Y)=net lm u [r] + net lm u Y:=by
 have e:∀ z,ind (r :: Y) z=ind [r] z + ind Y z:=fun z=>by
  by_cases hr:z=r
  ·subst hr
   rw [a2P zal,a2P zal,a00 h];rfl
  ·by_cases hz:z∈Y
   ·rw [a2P (zao _ hz),a00 (by simpa using hr),a2P hz];rfl
   ·rw [a00 (by simp [hr,hz]),a00 (by simpa using hr),a00 hz];rfl
 unfold net
 rw [← a7o]
 refine a2M fun q _=>?_
 rw [e,e,← Int.add_mul]
 congr 1
 omega
theorem a8Y:∀ {Y:List Str},Y.Nodup→(∀ r∈Y,r∉T→net lm u [r]=0)→net lm u Y=net lm u (Y.filter fun z=>decide (z∈T))
 | [],_,_=>rfl
 | r :: Y,hu,h=>by
  obtain ⟨h1,h2⟩:=zbd.mp hu
  have ih:=a8Y h2 fun z hz=>h z (zao _ hz)
  rw [a67 h1,ih]
  by_cases hr:r∈T
  ·rw [show (r :: Y).filter (fun z=>decide (z∈T))=r :: Y.filter (fun z=>decide (z∈T)) from List.filter_cons_of_pos (by simpa using hr),a67 fun k=>h1 (zay.mp k).1]
  ·rw [show (r :: Y).filter (fun z=>decide (z∈T))=Y.filter (fun z=>decide (z∈T)) from List.filter_cons_of_neg (by simpa using hr),h r zal hr]
   omega
theorem a7c (ok:b3s lm) {q:Str × Str × Str × Option Int} (hq:q∈lm):oneOf lm q.1=q.2.1:=by
 have:∀ {l:Lms},(nms l).Nodup→q∈l→l.lookup q.1=some q.2:=fun {l}=>by
  induction l with
  | nil=>exact fun _ h=>nomatch h
  | cons a l ih =>
   intro un hq
   have un2:a.1∉nms l∧(nms l).Nodup:=zbd.mp un
   rw [List.lookup_cons]
   rcases zau.mp hq with rfl | hq
   ·simp
   ·have ne:(q.1 == a.1)=false:=by
     rw [beq_eq_false_iff_ne]
     exact fun e=>un2.1 (by rw [← e];exact zan.mpr ⟨q,hq,rfl⟩)
    rw [ne]
    exact ih un2.2 hq
 unfold oneOf
 rw [this ok.u hq]
theorem b0k (ok:b3s lm) {s:Stp} (h:a70 lm s):net lm (a0Y lm amt u s) X=net lm u X + amt * (ind X s.2.2 - ind X s.1):=by
 obtain ⟨q,hq,e,g⟩:=h
 have d:net lm (a0Y lm amt u s) X=net lm u X + a6v lm fun p=>(ind X p.2.2.1 - ind X p.2.1) * (a0Y lm amt u s p.1 - u p.1):=by
  unfold net
  rw [← a7o]
  refine a2M fun p _=>?_
  rw [← Int.mul_add]
  congr 1
  omega
 rw [d,b0H ok.u hq fun p hp ne=>?_]
 ·congr 1
  have e1:=a7c ok hq
  unfold a0Y
  rw [if_pos e,e1]
  have ne:=ok.ne q hq
  rcases g with ⟨g1,g2⟩ | ⟨g1,g2⟩
  ·rw [if_pos g1.symm,g1,g2,show u q.1 + amt - u q.1=amt by omega,Int.mul_comm]
  ·rw [if_neg fun k=>ne (by rw [← k,g1]),g1,g2,show u q.1 - amt - u q.1=-amt by omega,Int.mul_neg,← Int.neg_mul,Int.mul_comm]
   congr 1
   omega
 ·unfold a0Y
  rw [if_neg fun k=>ne (by rw [k,e]),Int.sub_self,Int.mul_zero]
theorem b2l (ok:b3s lm) {P:Stp→Prop} (hP:∀ s,P s→a70 lm s):∀ {st:List Stp} {u:Str→Int} {x y:Str},Chain P x st y→net lm (a2O lm amt u st) X=net lm u X + amt * (ind X y - ind X x):=by
 intro st u x y h
 induction h generalizing u with
 | nil=>unfold a2O;rw [List.foldl_nil,Int.sub_self,Int.mul_zero,Int.add_zero]
 | @cons x l y z st p _ ih =>
  show net lm (a2O lm amt (a0Y lm amt u (x,l,y)) st) X=_
  rw [ih,b0k ok (hP _ p)]
  show net lm u X + amt * (ind X y - ind X x) + amt * (ind X z - ind X y)=_
  rw [Int.add_assoc,← Int.mul_add]
  congr 2
  omega
theorem Chain.mono {P Q:Stp→Prop} (h:∀ s,P s→Q s) {x y:Str} {st:List Stp} (c:Chain P x st y):Chain Q x st y:=by
 induction c with
 | nil=>exact .nil
 | cons p _ ih=>exact .cons (h _ p) ih
theorem Chain.all {P:Stp→Prop} {x y:Str} {st:List Stp} (c:Chain P x st y):∀ s∈st,P s:=by
 induction c with
 | nil=>exact fun _ h=>nomatch h
 | cons p _ ih =>
  intro s hs
  rcases zau.mp hs with rfl | hs
  ·exact p
  ·exact ih s hs
structure a4W (lm:Lms) (u:Str→Int) (S T:List Str):Prop where
 b:∀ q∈lm,∀ c,q.2.2.2=some c→-c≤u q.1∧u q.1≤c
 k:∀ r,r∉S→r∉T→net lm u [r]=0
def a8N (q:Str × Str × Str × Option Int) (u:Str→Int) (s:Stp) (c:Int):Int:=if s.1=q.2.1 then c - u q.1 else c + u q.1
def b3o (lm:Lms) (u:Str→Int) (st:List Stp) (amt:Int):Prop:=∀ s∈st,∀ q∈lm,q.1=s.2.1→∀ c,q.2.2.2=some c→amt≤a8N q u s c
theorem a4X {s:Stp} (h:l≠s.2.1):a0Y lm amt u s l=u l:=if_neg h
theorem a5a (ok:b3s lm) (a0:0≤amt):∀ {st:List Stp} {u:Str→Int},(st.map fun s=>s.2.1).Nodup→b3o lm u st amt→(∀ q∈lm,∀ c,q.2.2.2=some c→-c≤u q.1∧u q.1≤c)→∀ q∈lm,∀ c,q.2.2.2=some c→-c≤a2O lm amt u st q.1∧a2O lm amt u st q.1≤c
 | [],_,_,_,hb=>hb
 | s :: st,u,hu,ha,hb=>by
  obtain ⟨h1,h2⟩:=zbd.mp hu
  show ∀ q∈lm,∀ c,q.2.2.2=some c→-c≤a2O lm amt (a0Y lm amt u s) st q.1∧a2O lm amt (a0Y lm amt u s) st q.1≤c
  refine a5a ok a0 h2 (fun s' hs q hq e c hc=>?_) fun q hq c hc=>?_
  ·have ne:q.1≠s.2.1:=fun k=>h1 (by show s.2.1∈_;rw [← k,e];exact zan.mpr ⟨s',hs,rfl⟩)
   have:=ha s' (zao _ hs) q hq e c hc
   unfold a8N at this ⊢
   rw [a4X ne]
   exact this
  ·obtain ⟨b1,b2⟩:=hb q hq c hc
   by_cases e:q.1=s.2.1
   ·have:=ha s zal q hq e c hc
    unfold a8N at this
    unfold a0Y
    rw [if_pos e,a7c ok hq]
    by_cases g:s.1=q.2.1
    ·rw [if_pos g] at this ⊢;omega
    ·rw [if_neg g] at this ⊢;omega
   ·rw [a4X e];exact ⟨b1,b2⟩
theorem a9Q {s:Stp} (h:Arc lm u s.1 s.2.1 s.2.2):a70 lm s:=by
 obtain ⟨q,hq,e,g⟩:=h
 exact ⟨q,hq,e,g.elim (fun g=>.inl ⟨g.1,g.2.1⟩) fun g=>.inr ⟨g.1,g.2.1⟩⟩
abbrev c1D (lm:Lms) (u:Str→Int):Stp→Prop:=fun s=>Arc lm u s.1 s.2.1 s.2.2
theorem a4W.add (ok:b3s lm) {S:List Str} (f:a4W lm u S T) (c:Chain (c1D lm u) x st y) (hx:x∈S) (hy:y∈T) (nd:(st.map fun s=>s.2.1).Nodup) (a0:0≤amt) (a:b3o lm u st amt):a4W lm (a2O lm amt u st) S T:=by
 refine ⟨a5a ok a0 nd a f.b,fun r h1 h2=>?_⟩
 rw [b2l ok (fun s=>a9Q) c,f.k r h1 h2,a00 (show y∉[r] from fun k=>h2 (by rw [← zaj.mp k];exact hy)),a00 (show x∉[r] from fun k=>h1 (by rw [← zaj.mp k];exact hx))]
 omega
structure a7Y (lm:Lms) (S T Y:List Str):Prop where
 u:Y.Nodup
 t:∀ z∈T,z∈Y
 s:∀ z∈S,z∉Y
 b:∀ q∈lm,(q.2.1∈Y∧q.2.2.1∉Y)∨(q.2.1∉Y∧q.2.2.1∈Y)→q.2.2.2≠none
def a5Y (lm:Lms) (Y:List Str):Int:=a6v lm fun q=>if (q.2.1∈Y∧q.2.2.1∉Y)∨(q.2.1∉Y∧q.2.2.1∈Y) then q.2.2.2.getD 0 else 0
theorem a7Y.val {S:List Str} (h:a7Y lm S T Y) (f:a4W lm u S T):net lm u Y=net lm u T:=by
 rw [a8Y (T:=T) h.u fun r hr ht=>f.k r (fun k=>h.s r k hr) ht]
 exact a8X fun z=>⟨fun k=>of_decide_eq_true (zay.mp k).2,fun k=>zay.mpr ⟨h.t z k,zbg k⟩⟩
def c01 (lm:Lms) (u:Str→Int) (Y:List Str):Prop:=∀ x l y,Arc lm u x l y→y∈Y→x∈Y
theorem c01.eq {S:List Str} (h:a7Y lm S T Y) (f:a4W lm u S T) (fu:c01 lm u Y):net lm u Y=a5Y lm Y:=by
 refine a2M fun q hq=>?_
 by_cases a:q.2.1∈Y <;> by_cases b:q.2.2.1∈Y
 ·rw [a2P a,a2P b,if_neg (by simp [a,b])];omega
 ·rw [a2P a,a00 b,if_pos (.inl ⟨a,b⟩)]
  cases e:q.2.2.2 with
  | none=>exact absurd e (h.b q hq (.inl ⟨a,b⟩))
  | some c =>
   have:=f.b q hq c e
   have no:¬ 0 < c + u q.1:=fun k=>b (fu q.2.2.1 q.1 q.2.1 ⟨q,hq,rfl,.inr ⟨rfl,rfl,fun c' hc=>by rw [e] at hc;cases hc;exact k⟩⟩ a)
   show (0 - 1) * u q.1=c
   omega
 ·rw [a00 a,a2P b,if_pos (.inr ⟨a,b⟩)]
  cases e:q.2.2.2 with
  | none=>exact absurd e (h.b q hq (.inr ⟨a,b⟩))
  | some c =>
   have:=f.b q hq c e
   have no:¬ 0 < c - u q.1:=fun k=>a (fu q.2.1 q.1 q.2.2.1 ⟨q,hq,rfl,.inl ⟨rfl,rfl,fun c' hc=>by rw [e] at hc;cases hc;exact k⟩⟩ b)
   show (1 - 0) * u q.1=c
   omega
 ·rw [a00 a,a00 b,if_neg (by simp [a,b])];omega
structure a72 (lm:Lms) (S T X:List Str):Prop where
 ok:a7Y lm S T X
 least:∀ Y,a7Y lm S T Y→a5Y lm X≤a5Y lm Y∧(a5Y lm X=a5Y lm Y→∀ z∈X,z∈Y)
theorem a72.uniq {S:List Str} (h:a72 lm S T X) (k:a72 lm S T Y):∀ z,z∈X↔z∈Y:=by
 have a:=h.least Y k.ok
 have b:=k.least X h.ok
 have e:a5Y lm X=a5Y lm Y:=by have:=a.1;have:=b.1;omega
 exact fun z=>⟨a.2 e z,b.2 e.symm z⟩
end
abbrev lc (K:zbj):Addr:=He.ga K "Layout"
abbrev gr (K:zbj) (r:Rf):Addr:=He.ga K r.cls
def lay0:Lay:=⟨[],[],[],[],false⟩
def a9d (C:Addr) (S:SS) (p a b c d:Addr):SS:=fun q=>if q=p then some (b8X C a b c d) else if q=a then some (.dic []) else if q=b then some (.dic []) else if q=c then some (.dic []) else if q=d then some (.dic []) else S q
def a9O (K0:zbj):TR:=fun m ds S K Y=>m=none∧∃ p,ds=[.obj p]∧S p=some (.ins (lc K0) [])∧∀ a b c d,a≠p→b≠p→c≠p→d≠p→a≠b→a≠c→a≠d→b≠c→b≠d→c≠d→S a=none→S b=none→S c=none→S d=none→K .non (a9d (lc K0) S p a b c d)
def a3W:TR:=fun m ds S K Y=>m=none∧∃ x,ds=[x,x]∧Plain x∧K (.bl true) S
def a1p:TR:=fun m ds S K Y=>m=none∧∃ x,ds=[x,.bl true]∧K .non S
def a0M:TR:=fun m ds S K Y=>m=none∧∃ z,ds=[.str z]∧Nm z∧K (.bl true) S
def a4o:TR:=fun m ds S K Y=>m=none∧∃ i,ds=[.int i]∧K (.bl true) S
def a5S:TR:=fun m ds S K Y=>m=none∧∃ i,ds=[.int i]∧0≤i∧i≤99∧K (.bl true) S
def a2N (K0:zbj):TR:=fun m ds S K Y=>m=none∧∃ (z:Str) (p:Addr) (α:Type) (f:α→D) (l:List (Str × α)),ds=[.str z,.obj p]∧S p=some (.dic (a0B f l))∧(z∈nms l→K .non S)∧(z∉nms l→Y (gr K0 (.lacks z)) (Rf.lacks z).fs S)
def a76 (K0:zbj):TR:=fun m ds S K Y=>m=none∧∃ L a b c d st z q,ds=[.obj L,.str z]∧Nm z∧a2e (lc K0) S L a b c d st∧st.lines.lookup z=some q∧K (fL q) S
def a2j (K0:zbj) (sel:Lay→List Str):TR:=fun m ds S K Y=>m=none∧∃ L a b c d st,ds=[.obj L]∧a2e (lc K0) S L a b c d st∧(sel st).length < 64∧K (.lst ((a0i (sel st)).map D.str)) S
def a9P (K0:zbj):TR:=fun m ds S K Y=>m=none∧∃ L a b c d st z,ds=[.obj L,.str z]∧a2e (lc K0) S L a b c d st∧(z∈nms st.lines∨z∈nms st.drains→Y (gr K0 (.there z)) (Rf.there z).fs S)∧(z∉nms st.lines→z∉nms st.drains→K .non S)
def Ends (K0:zbj) (o:Option Rf) (Y:XK') (S:SS) (P:Prop):Prop:=match o with
 | some r=>Y (gr K0 r) r.fs S
 | none=>P
def a4l (K0:zbj):TR:=fun m ds S K Y=>m=none∧∃ L a b c d st n z,ds=[.obj L,.str z]∧Nm z∧a2e (lc K0) S L a b c d st∧Ok n st∧Ends K0 (due st (.room z)) Y S (K .non (S.set a (.dic (a0B fU (st.rooms ++ [(z,())])))))
def a2H (K0:zbj):TR:=fun m ds S K Y=>m=none∧∃ L a b c d st n z,ds=[.obj L,.str z]∧Nm z∧a2e (lc K0) S L a b c d st∧Ok n st∧n≤62∧Ends K0 (due st (.source z)) Y S (K .non (S.set d (.dic (a0B fU (st.pushed ++ [(z,())])))))
def a3g (K0:zbj):TR:=fun m ds S K Y=>m=none∧∃ L a b c d st n z r,ds=[.obj L,.str z,.str r]∧(a6D.drain z r).Ok∧a2e (lc K0) S L a b c d st∧Ok n st∧Ends K0 (due st (.drain z r)) Y S (K .non (S.set c (.dic (a0B fS (st.drains ++ [(z,r)])))))
def a2W (K0:zbj):TR:=fun m ds S K Y=>m=none∧∃ L a b c d st n l x y k,ds=[.obj L,.str l,.str x,.str y,.int k]∧(a6D.line l x y k).Ok∧a2e (lc K0) S L a b c d st∧Ok n st∧Ends K0 (due st (.line l x y k)) Y S (K .non (S.set b (.dic (a0B fL (st.lines ++ [(l,x,y,k)])))))
def a3j (K0:zbj):TR:=fun m ds S K Y=>m=none∧∃ L a b c d st z,ds=[.obj L,.str z]∧Nm z∧a2e (lc K0) S L a b c d st∧Ends K0 (due st (.takeL z)) Y S (K .non (S.set b (.dic (a0B fL (without st.lines z)))))
def next (st:Lay) (w:a6D):Lay:=match due st w with
 | some _=>st
 | none=>c08 st w
def mW (w:Wo) (e:Addr) (f:List Str):List (Key × D):=[(.inr "rooms",.lst ((a0i w.rooms).map D.str)),(.inr "drawn",.lst (f.map D.str)),(.inr "lines",.obj e),(.inr "sources",.lst (w.srcs.map D.str))]
structure MW (S:SS) (M e:Addr) (f:List Str) (w:Wo):Prop where
 Me:M≠e
 M:S M=some (.dic (mW w e f))
 e:S e=some (.dic (a0B fL w.lines))
def Grows (S S':SS):Prop:=∀ q,S q≠none→S' q=S q
structure a1V (C:Addr) (S:SS) (L a b c d:Addr) (st:Lay):Prop where
 s:a2e C S L a b c d st
 ab:a≠b
 ac:a≠c
 ad:a≠d
 bc:b≠c
 bd:b≠d
 cd:c≠d
def a0r (w:Wo):List Str:=nms (w.lines.filter fun q=>decide (0 < q.2.2.2))
structure a9M (rs zs:List Str) (ls:List (Str × Str × Str × Int)):Prop where
 u:(nms ls).Nodup
 few:ls.length≤zs.length
 one:∀ q∈ls,q.1∈zs∧q.2.1∈rs∧q.2.2.1∈rs∧q.2.2.1≠q.2.1∧0≤q.2.2.2∧q.2.2.2≤99
def LV (S:SS) (x:D) (zs:List Str):Prop:=x=.lst (zs.map D.str)∨∃ q,x=.obj q∧S q=some (.lst (zs.map D.str))
def a1u:TR:=fun m ds S K Y=>m=none∧∃ x,∃ zs:List Str,ds=[x]∧LV S x zs∧zs.Nodup∧(∀ z∈zs,Nm z)∧zs.length≤60∧K (.bl true) S
def b3p (w:Wo) (shut rs:List Str):Prop:=(∀ z∈shut,z∈a0r w)∧shut.Nodup∧shut.length≤40∧(∀ z∈rs,z∈w.rooms)∧rs.Nodup∧rs.length≤24
def a78:TR:=fun m ds S K Y=>m=none∧∃ b c,ds=[.obj b]∧S b=some c∧a0w c∧∀ n k c',1≤n→n≤24→0≤k→k≤40→a0w c'→K (.tup [.int n,.int k]) (S.set b c')
def a3i:TR:=fun m ds S K Y=>m=none∧∃ b c n,ds=[.obj b,.int n]∧0≤n∧n≤51∧S b=some c∧a0w c∧∀ (zs:List Str) c',(zs.length:Int)=n→(∀ z∈zs,Nm z)→zs.Nodup→a0w c'→K (.lst (zs.map D.str)) (S.set b c')
def a6G:TR:=fun m ds S K Y=>m=none∧∃ b c n,∃ zs:List Str,ds=[.obj b,.lst (zs.map D.str),.int n]∧zs.length≤1000∧0≤n∧n≤1000∧(∀ z∈zs,Nm z)∧S b=some c∧a0w c∧∀ (ys:List Str) c' q,S q=none→(∀ y∈ys,y∈zs)→ys.Nodup→(ys.length:Int)≤n→(zs≠[]→1≤n→ys≠[])→a0w c'→K (.obj q) ((S.set b c').set q (.lst (ys.map D.str)))
def a75:TR:=fun m ds S K Y=>m=none∧∃ b c sh n k,ds=[.obj b,.int n,.int sh,.int k]∧1≤n∧n≤1000∧0≤k∧k≤1000∧S b=some c∧a0w c∧∀ i j c',0≤i→i < n→0≤j→j < n→a0w c'→K (.tup [.int i,.int j]) (S.set b c')
def a74:TR:=fun m ds S K Y=>m=none∧∃ b c co,ds=[.obj b,.int co]∧S b=some c∧a0w c∧∀ v c',0≤v→v≤99→a0w c'→K (.int v) (S.set b c')
def a5V:TR:=fun m ds S K Y=>m=none∧∃ b c n k,ds=[.obj b,.int n,.int k]∧1≤n∧n≤24∧0≤k∧k≤40∧S b=some c∧a0w c∧∀ w M e c' S',a2f w→a0i w.srcs=w.srcs→w.rooms≠[]→w.drains=[]→(w.rooms.length:Int)=n→S' b=some c'→a0w c'→MW S' M e w.rooms w→K (.obj M) S'
def a4p (K0:zbj):TR:=fun m ds S K Y=>m=none∧∃ M  e w,ds=[.obj M]∧MW S M e w.rooms w∧a2f w∧w.drains=[]∧∀ L a b c d S',Grows S S'→S L=none→S a=none→S b=none→S c=none→S d=none→a1V (lc K0) S' L a b c d w.lay→K (.obj L) S'
def a4n (K0:zbj):TR:=fun m ds S K Y=>∃ a oe,∃ X f,∃ v,m=some (a,oe)∧ds=[.exc a oe (He.ga K0 X) [(f,v)]]∧((X = "Wrong" ∧ f = "at")∨(X = "Lacks" ∧ f = "name")∨(X = "NoPart" ∧ f = "way"))∧K (.tup [.str X,v]) S
inductive Dtt:D→Prop
 | non:Dtt .non | bl (b:Bool):Dtt (.bl b) | int (i:Int):Dtt (.int i) | dic (kvs:List (Key × D)):Dtt (.dic kvs)
 | str (z:Str) (h:z.length≤100000) (f:fine z=true):Dtt (.str z)
 | lst (ds:List D) (h:∀ d∈ds,Dtt d):Dtt (.lst ds)
 | tup (ds:List D) (h:∀ d∈ds,Dtt d):Dtt (.tup ds)
def NmP (x:D):Prop:=∃ z,x=.str z∧Nm z
def a2g (x:D):Prop:=∃ zs:List Str,x=.lst (zs.map D.str)∧zs.Nodup∧(∀ z∈zs,Nm z)∧zs.length≤60
def TPA (P:D→Prop):TR:=fun m ds S K Y=>m=none∧∃ x,ds=[x]∧Dtt x∧∀ (k:Bool) S',Grows S S'→(k=true↔P x)→K (.bl k) S'
def TQA (P:D→Prop):TR:=fun m ds S K Y=>m=none∧∃ x,ds=[x]∧Dtt x∧∀ (k:Bool),(k=true↔P x)→K (.bl k) S
def TOr (T T':TR):TR:=fun m ds S K Y=>T m ds S K Y∨T' m ds S K Y
def a80 (x:D):Prop:=x=.non∨x=.int 5∨x=.str "a" ∨ x=.lst []
def b7v (K0:zbj) (S:SS) (x:D):Prop:=∃ L a b c d st,x=.obj L∧a2e (lc K0) S L a b c d st
def a69 (w:Wo) (z:Str):Bool:=!decide (z∈a0r w)
def a5T (K0:zbj):TR:=fun m ds S K Y=>m=none∧∃ i,∃ b:Bool,ds=[.int i,.bl b]∧match b with
 | true=>K .non S
 | false=>Y (He.ga K0 "Wrong") [("at",.int i)] S
def a3h (K0:zbj):TR:=fun m ds S K Y=>m=none∧∃ L a b c d w x,∃ zs:List Str,ds=[.obj L,x]∧LV S x zs∧a2e (lc K0) S L a b c d w.lay∧a2f w∧zs.length≤1000∧(∀ z∈zs,Nm z)∧match zs.find? (a69 w) with
 | some z=>Y (He.ga K0 "Lacks") [("name",.str z)] S
 | none=>K .non S
def a03 (w:Wo) (z:Str):Int:=match w.lines.lookup z with
 | some q=>q.2.2
 | none=>0
def a2T (w:Wo) (zs:List Str):Int:=(zs.map (a03 w)).sum
structure a7v (zs:List Str):Prop where
 n:∀ z∈zs,Nm z
 u:zs.Nodup
 l:zs.length≤60
def a7X (K0:zbj) (S:SS) (x1 x2:D) (W:Int→Prop) (Lk:Str→Prop) (T:Int→Prop):Prop :=
 (∃ i,((a80 x1∧i=0)∨(b7v K0 S x1∧¬ a2g x2∧i=1))∧Dtt x2∧W i)∨∃ L a b c d w,∃ zs:List Str,x1=.obj L∧LV S x2 zs∧a2e (lc K0) S L a b c d w.lay∧a2f w∧a7v zs∧match zs.find? (a69 w) with
  | some z=>Lk z
  | none=>T (a2T w zs)
def a2i (K0:zbj):TR:=fun m ds S K Y=>m=none∧∃ x1 x2,ds=[x1,x2]∧a7X K0 S x1 x2 (fun i=>∀ S',Grows S S'→Y (He.ga K0 "Wrong") [("at",.int i)] S') (fun z=>Y (He.ga K0 "Lacks") [("name",.str z)] S) (fun n=>K (.int n) S)
def a1v (K0:zbj):TR:=fun m ds S K Y=>m=none∧∃ x1 x2,ds=[x1,x2]∧a7X K0 S x1 x2 (fun i=>∀ S',Grows S S'→K (.tup [.str "Wrong",.int i]) S') (fun z=>K (.tup [.str "Lacks",.str z]) S) (fun n=>K (.tup [.str "told",.int n]) S)
def a6a (w:Wo) (zs:List Str):D:=match zs.find? (a69 w) with
 | some z=>.tup [.str "Lacks",.str z]
 | none=>.tup [.str "told",.int (a2T w zs)]
def a6F:TR:=fun m ds S K Y=>m=none∧∃ M e dr w x,∃ zs:List Str,ds=[.obj M,x]∧LV S x zs∧MW S M e dr w∧a2f w∧a7v zs∧K (a6a w zs) S
def a4m:TR:=fun m ds S K Y=>m=none∧∃ b c M e dr w,ds=[.obj b,.obj M]∧S b=some c∧a0w c∧MW S M e dr w∧a2f w∧∀ (zs:List Str) c' q,S q=none→zs.Nodup→(∀ z∈zs,z∈a0r w)→a0w c'→K (.obj q) ((S.set b c').set q (.lst (zs.map D.str)))
def a5U:TR:=fun m ds S K Y=>m=none∧∃ b c,∃ zs:List Str,ds=[.obj b,.lst (zs.map D.str)]∧zs.length≤100∧(∀ z∈zs,Nm z)∧S b=some c∧a0w c∧∀ x c',Dtt x→¬ a2g x→a0w c'→K x (S.set b c')
def b0S (g:Addr) (S S':SS):Prop:=∀ q,q≠g→S q≠none→S' q=S q
def a4q (K0:zbj):TR:=fun m ds S K Y=>m=none∧∃ g c0 L a b c d w,∃ zs:List Str,ds=[.obj g,.obj L,.lst (zs.map D.str)]∧S g=some c0∧a0w c0∧a2e (lc K0) S L a b c d w.lay∧a2f w∧a7v zs∧∀ c1 S',a0w c1→S' g=some c1→b0S g S S'→K (.bl true) S'
structure b3f (g M e L a b c d:Addr):Prop where
 g:∀ q∈[L,a,b,c,d],q≠g
 M:∀ q∈[L,a,b,c,d],q≠M
 e:∀ q∈[L,a,b,c,d],q≠e
def a3k (K0:zbj):TR:=fun m ds S K Y=>m=none∧∃ g c0 L a b c d M e dr w z,ds=[.obj g,.obj L,.obj M,.str z]∧S g=some c0∧a0w c0∧a1V (lc K0) S L a b c d w.lay∧MW S M e dr w∧b3f g M e L a b c d∧a2f w∧Nm z∧∀ w' c1 S',a2f w'→w'.rooms=w.rooms→w'.srcs=w.srcs→w'.drains=w.drains→a0w c1→S' g=some c1→a1V (lc K0) S' L a b c d w'.lay→MW S' M e dr w'→(∀ q,q≠g→q≠e→q≠b→S q≠none→S' q=S q)→K .non S'
theorem a0b {K:zbj} (c:SaysX fa fn fx K):Cls K (He.ga K "Layout"):=He.cls_ok (c.d.fact 3 (f:=.cls "Layout") rfl)
theorem a0H {K:zbj} (c:SaysX fa fn fx K):NoAttr K (He.ga K "Layout") "by_room" := He.noat_ok (c.d.fact 79 (f:=.noat "Layout" "by_room") rfl)
theorem a0I {K:zbj} (c:SaysX fa fn fx K):NoAttr K (He.ga K "Layout") "ends_of" := He.noat_ok (c.d.fact 80 (f:=.noat "Layout" "ends_of") rfl)
theorem a1e {K:zbj} (c:SaysX fa fn fx K):NoAttr K (He.ga K "Layout") "seat_of" := He.noat_ok (c.d.fact 81 (f:=.noat "Layout" "seat_of") rfl)
theorem a2t {K:zbj} (c:SaysX fa fn fx K):NoAttr K (He.ga K "Layout") "pushed" := He.noat_ok (c.d.fact 82 (f:=.noat "Layout" "pushed") rfl)
def tb (K:zbj):Tb:=⟨c1a,b3R,b8Q,[some b7A,some a0v,some (a9O K),some a1p,some (TOr a0M (TQA NmP)),some a4o,some (a9P K),some (a2N K),some a3W,some (a5T K),some (a2j K fun st=>nms st.lines),none,some a6F,some (a2j K fun st=>nms st.rooms),some (a2j K fun st=>nms st.drains),some (a2j K fun st=>nms st.pushed),some a78,some a77,some a6G,some a75,some a74,some (a4l K),some a5S,some (a2H K),some (a3g K),some (TOr a1u (TPA a2g)),some (a76 K),some (a3j K),some a5U,some a3i,some (a2W K),some a4m,some (a3h K),some a5V,some (a4p K),some (a2i K),some (a3k K),some (a1v K),some (a4q K),some (lawT 63)],[none,none,none,none,none,none,none,none,none,none,none,some (a4n K),none,none,none,none,none,none,none,none,none,none,none,none,none,none,none,none,none,none,none,none,none,none,none,none,none,none,none,none],[.str "abcdefghijklmnopqrstuvwxyz",.int 8,.int 99,.int 60,.int 24,.int 40,.int 12],[none,some (.fld "at"),some (.fld "name"),some (.fld "name"),some (.fld "most"),some (.fld "hands"),some (.fld "way"),none],[0,0,0,0,0,0,0,0,0,0,0,0,0,0,0,0,16,16,16,16,16,16,16,16,16,16,16,16,16,29,29,29,29,33,33,33,33,37,38,39],[]⟩
theorem dg0 {K:zbj} {i:Nat} {m:Option (Addr × Obj)} {δ:DS} {S:SS} {Y:XD' } {KK:DK} (k:KK (.str "abcdefghijklmnopqrstuvwxyz") S):den ((tb K).G K i m).toGm (.glb 0) δ S Y KK:=a5Z k
theorem dg1 {K:zbj} {i:Nat} {m:Option (Addr × Obj)} {δ:DS} {S:SS} {Y:XD' } {KK:DK} (k:KK (.int 8) S):den ((tb K).G K i m).toGm (.glb 1) δ S Y KK:=a5Z k
theorem dg2 {K:zbj} {i:Nat} {m:Option (Addr × Obj)} {δ:DS} {S:SS} {Y:XD' } {KK:DK} (k:KK (.int 99) S):den ((tb K).G K i m).toGm (.glb 2) δ S Y KK:=a5Z k
theorem dg3 {K:zbj} {i:Nat} {m:Option (Addr × Obj)} {δ:DS} {S:SS} {Y:XD' } {KK:DK} (k:KK (.int 60) S):den ((tb K).G K i m).toGm (.glb 3) δ S Y KK:=a5Z k
theorem dg4 {K:zbj} {i:Nat} {m:Option (Addr × Obj)} {δ:DS} {S:SS} {Y:XD' } {KK:DK} (k:KK (.int 24) S):den ((tb K).G K i m).toGm (.glb 4) δ S Y KK:=a5Z k
theorem dg5 {K:zbj} {i:Nat} {m:Option (Addr × Obj)} {δ:DS} {S:SS} {Y:XD' } {KK:DK} (k:KK (.int 40) S):den ((tb K).G K i m).toGm (.glb 5) δ S Y KK:=a5Z k
theorem dg6 {K:zbj} {i:Nat} {m:Option (Addr × Obj)} {δ:DS} {S:SS} {Y:XD' } {KK:DK} (k:KK (.int 12) S):den ((tb K).G K i m).toGm (.glb 6) δ S Y KK:=a5Z k
instance c3i {K:zbj} {i:Nat} {m:Option (Addr × Obj)} {δ:DS} {S:SS} {Y:XD' } {KK:DK}:Rdg (den ((tb K).G K i m).toGm (.glb 0) δ S Y KK) (KK (.str "abcdefghijklmnopqrstuvwxyz") S):=⟨dg0⟩
instance c3j {K:zbj} {i:Nat} {m:Option (Addr × Obj)} {δ:DS} {S:SS} {Y:XD' } {KK:DK}:Rdg (den ((tb K).G K i m).toGm (.glb 1) δ S Y KK) (KK (.int 8) S):=⟨dg1⟩
instance c3k {K:zbj} {i:Nat} {m:Option (Addr × Obj)} {δ:DS} {S:SS} {Y:XD' } {KK:DK}:Rdg (den ((tb K).G K i m).toGm (.glb 2) δ S Y KK) (KK (.int 99) S):=⟨dg2⟩
instance c3l {K:zbj} {i:Nat} {m:Option (Addr × Obj)} {δ:DS} {S:SS} {Y:XD' } {KK:DK}:Rdg (den ((tb K).G K i m).toGm (.glb 3) δ S Y KK) (KK (.int 60) S):=⟨dg3⟩
instance c3m {K:zbj} {i:Nat} {m:Option (Addr × Obj)} {δ:DS} {S:SS} {Y:XD' } {KK:DK}:Rdg (den ((tb K).G K i m).toGm (.glb 4) δ S Y KK) (KK (.int 24) S):=⟨dg4⟩
instance c3n {K:zbj} {i:Nat} {m:Option (Addr × Obj)} {δ:DS} {S:SS} {Y:XD' } {KK:DK}:Rdg (den ((tb K).G K i m).toGm (.glb 5) δ S Y KK) (KK (.int 40) S):=⟨dg5⟩
instance c3o {K:zbj} {i:Nat} {m:Option (Addr × Obj)} {δ:DS} {S:SS} {Y:XD' } {KK:DK}:Rdg (den ((tb K).G K i m).toGm (.glb 6) δ S Y KK) (KK (.int 12) S):=⟨dg6⟩
def b3q:List Str:=["Wrong", "There", "Lacks", "TooMany", "Held", "NoPart"]
end Cl
open Cl PySem PySem.Spec PyProof.Rows L2 Sv
local macro_rules | `(tactic| lia)=>`(tactic| (repeat (first | (refine Rdg.go ?_) | ((with_reducible apply b8K);focus exact rfl) | ((with_reducible apply c0W);focus exact rfl) | (with_reducible refine And.intro (a:=_≤sizeLine) (by rw [zai];simp only [zaz,List.length_nil,zaw,zag];omega) ?_) | (with_reducible refine a2w (by rw [zai];simp only [zaz,List.length_nil,zaw,zag];omega) ?_) | (dsimp only))))
namespace Cl
open PySem PySem.Spec PyProof.Rows L2 Sv
variable {K:zbj}
section
variable {x y z v:Int} {cells:List Int}
theorem at0:atI (b1e x y z cells) 0=some (.int x):=rfl
theorem at1:atI (b1e x y z cells) 1=some (.int y):=rfl
theorem at2:atI (b1e x y z cells) 2=some (.int z):=rfl
theorem at3:atI (b1e x y z cells) 3=some (.lst (cells.map .int)):=rfl
end
theorem a2Z {xs:List D} {k:Nat}:Sv.cutD xs none (some (k:Int))=xs.take k:=by
 unfold Sv.cutD
 rw [HT.sIx_none,HT.sIx_nat]
 simp only [List.drop_zero,Nat.sub_zero]
 by_cases h:k≤xs.length
 ·rw [Nat.min_eq_left h]
 ·rw [Nat.min_eq_right (by omega),List.take_length,List.take_of_length_le (by omega)]
theorem bnd {j:Int} (h0:-1000≤j) (h1:j≤1000000):-(2 ^ 62)≤j∧j < 2 ^ 62:=by
 have e:(2:Int) ^ 62=4611686018427387904:=by decide
 rw [e];omega
theorem lg {n : Int} (h0 : 0 < n) (h1 : n ≤ 1000000) : n.natAbs.log2 < 4000 := by
  have h : n.natAbs < 2 ^ 20 := by have : (2 : Nat) ^ 20 = 1048576 := by decide
                                   omega
  exact Nat.lt_trans ((Nat.log2_lt (by omega)).mpr h) (by decide)
theorem me1 (c:SaysX fa fn fx K):Meets ((tb K).sn N1) ((tb K).G K 1) 2 false a0v b1:=by
 refine Qt.put_in ?_
 simp (disch :=
 with_unfolding_all
 refine Qt.keep ?_
 rintro m hm ds S KK Y ⟨rfl,b,n0,c,rfl,hn,hn2,hb,⟨x,y,z,cells,rfl,hx,hy,hy2,hz,hc⟩,hK⟩
 refine ⟨rfl,?_⟩
 show a0c _ b1 [some _,some _,none,none,none,none] _ _ _
 unfold b1
 have hb0:=hb
 refine a5H (fun δ1 S1=>∃ x y z c1,c0Z x y z cells∧S1=S.set b (.lst (b1e x y z cells))∧δ1=[some (.obj b),some (.int n0),c1,none,none,none]) ?_ ?_
 ·lia
  refine a8G hb at0 ?_
  lia
  split
  ·lia
   refine a5H (fun δ1 S1=>∃ w,0≤w∧S1=S∧δ1=[some (.obj b),some (.int n0),some (.int w),none,none,none]) ?_ ?_
   ·lia
    refine a8G hb at2 ?_
    lia
    refine a8G hb at3 ?_
    lia
    split
    ·rename_i e
     have e:z < (cells.length:Int):=by simpa using e
     lia
     refine a8G hb at3 ?_
     lia
     refine a8G hb at2 ?_
     obtain ⟨k,rfl⟩:=Int.eq_ofNat_of_zero_le hz
     have hk:k < cells.length:=by omega
     refine a3V (a1W (zbi hk)) ?_
     lia
     exact ⟨cells[k],hc _ (List.getElem_mem hk),rfl,rfl⟩
    ·lia
     exact ⟨0,by omega,rfl,rfl⟩
   ·rintro δ1 S1 ⟨w,hw,hS,rfl⟩
    rw [hS]
    lia
    refine b8P hb at2 ?_
    lia
    refine b0B hb rfl ?_
    lia
    refine a5H (fun δ1 S1=>∃ x1,0≤x1∧S1=S.set b (.lst (b1e x1 y (z + 1) cells))∧δ1=[some (.obj b),some (.int n0),some (.int w),none,none,none]) ?_ ?_
    ·lia
     split
     ·lia
      refine b0B zab rfl ?_
      lia
      exact ⟨w,hw,by rw [zac];rfl,rfl⟩
     ·lia
      exact ⟨x,hx,rfl,rfl⟩
    ·rintro δ1 S1 ⟨x1,hx1,rfl,rfl⟩
     lia
     refine a8G zab at1 ?_
     lia
     refine a4F (.inl (.inr (by decide))) ?_
     lia
     refine a1Z (by decide) ?_
     lia
     refine a8G zab at2 ?_
     lia
     refine a4F (.inl (.inl (by decide))) ?_
     lia
     refine a1Z (by decide) ?_
     lia
     refine b0B zab rfl ?_
     lia
     exact ⟨x1,(y * 48271 + w % 2147483647 + 7919 * (z + 1)) % 2147483647,z + 1,_,⟨hx1,Int.emod_nonneg _ (by decide),Int.emod_lt_of_pos _ (by decide),by omega,hc⟩,by rw [zac];rfl,rfl⟩
  ·lia
   exact ⟨x,y,z,none,⟨hx,hy,hy2,hz,hc⟩,(SS.set_id hb).symm,rfl⟩
 ·rintro δ1 S1 ⟨x,y,z,c1,⟨hx,hy,hy2,hz,hc⟩,rfl,rfl⟩
  lia
  refine a8G zab at0 ?_
  lia
  split
  ·rename_i e
   have e:0 < x:=by simpa using e
   lia
   refine a8G zab at0 ?_
   lia
   refine a1Z hn ?_
   lia
   refine a8G zab at0 ?_
   lia
   refine b0l ⟨hn,by omega⟩ ?_
   lia
   refine b0B zab rfl ?_
   lia
   rw [zac]
   exact hK _ _ (Int.emod_nonneg _ (by omega)) (Int.emod_lt_of_pos _ hn) ⟨x / n0,y,z,cells,rfl,Int.ediv_nonneg hx (by omega),hy,hy2,hz,hc⟩
  ·lia
   refine a8G zab at1 ?_
   lia
   refine a4F (.inl (.inr (by decide))) ?_
   lia
   refine a1Z (by decide) ?_
   have h1:=Int.emod_nonneg ((y + 1) * 39373) (by decide:(1000000007:Int)≠0)
   have h2:=Int.emod_lt_of_pos ((y + 1) * 39373) (by decide:(0:Int) < 1000000007)
   generalize ((y + 1) * 39373) % 1000000007=f1 at h1 h2 ⊢
   lia
   refine a4F (.inl (.inl ⟨by omega,by omega⟩)) ?_
   lia
   refine a1Z (by decide) ?_
   lia
   refine a4F (.inl (.inr (by decide))) ?_
   lia
   refine a1Z (by decide) ?_
   have h3:=Int.emod_nonneg (f1 * f1 % 998244353 * 30011) (by decide:(998244353:Int)≠0)
   have h4:=Int.emod_lt_of_pos (f1 * f1 % 998244353 * 30011) (by decide:(0:Int) < 998244353)
   generalize (f1 * f1 % 998244353 * 30011) % 998244353=f2 at h3 h4 ⊢
   lia
   split
   ·lia
    refine a4F (.inl (.inr (by decide))) ?_
    lia
    refine a1Z hn ?_
    exact hK _ _ (Int.emod_nonneg _ (by omega)) (Int.emod_lt_of_pos _ hn) ⟨x,y,z,cells,rfl,hx,hy,hy2,hz,hc⟩
   ·lia
    refine b0l ⟨by decide,by decide⟩ ?_
    lia
    refine a1Z hn ?_
    exact hK _ _ (Int.emod_nonneg _ (by omega)) (Int.emod_lt_of_pos _ hn) ⟨x,y,z,cells,rfl,hx,hy,hy2,hz,hc⟩
 ) only [↓Qt.put_off]
def b3D:D→D
 | .int i=>.int (if i < 0 then -i else i)
 | d=>d
theorem me0 (c:SaysX fa fn fx K):Meets ((tb K).sn N0) ((tb K).G K 0) 1 false b7A b0:=by
 rintro m hm ds S KK Y ⟨rfl,ns,rfl,hK⟩
 refine ⟨rfl,?_⟩
 show a0c _ b0 [some _,none] _ _ _
 unfold b0
 lia
 refine ⟨_,rfl,?_⟩
 rw [show (63:Int)=((63:Nat):Int) from rfl,a2Z]
 have hl:((ns.map D.int).take 63).length≤63:=by rw [List.length_take];omega
 refine a3u b3D (fun _=>true) (by rw [zai];omega) (fun _ _ _=>rfl) (fun p i acc d KK KN hd hp hk hn=>?_) ?_
 ·refine a2G (a9S ?_)
  rw [if_pos rfl]
  have hm:d∈ns.map D.int:=List.mem_of_mem_take (zaq hd)
  obtain ⟨x,_,rfl⟩:=zan.mp hm
  lia
  exact hk rfl
 ·have e:(((ns.map D.int).take 63).filter fun _=>true).map b3D=((ns.take 63).map fun i=>if i < 0 then -i else i).map D.int:=by
   rw [zbc.mpr (fun _ _=>rfl),← List.map_take,zat,zat]
   rfl
  rw [e]
  lia
  intro p hp
  refine hK p _ hp ⟨0,1234567891,0,_,rfl,by decide,by decide,by decide,by decide,fun i hi=>?_⟩
  obtain ⟨x,_,rfl⟩:=zan.mp hi
  split <;> omega
theorem a7y {tg:List Nat} {one:Bool} {d:D} {δ:DS} {S:SS} {Q Q':DS→SS→Prop} (w:∀ δ S,Q δ S→Q' δ S) (h:a1w tg one d δ S Q):a1w tg one d δ S Q':=by
 unfold a1w at h ⊢
 split
 ·rename_i e
  rw [if_pos e] at h
  split at h
  ·exact w _ _ h
  ·exact h
 ·rename_i e
  rw [if_neg e] at h
  obtain ⟨ds,h1,h2,h3⟩:=h
  exact ⟨ds,h1,h2,w _ _ h3⟩
theorem b01 {G:Gm} {elt:RE} {tg:List Nat} {one:Bool} {own:List Nat} {δ:DS} {KK:DK} {ds:List D} {ok:SS→Prop} {S:SS} {b:Addr} {c:Cell} (hb:S b=some c) (hc:a0w c) (hz:ds.length≤sizeLine) (P:D→Prop) (hok:∀ S',ok S')
  (hs:∀ (p:Addr) (i:Nat) (acc:List D) (d:D) (S0:SS) (c0:Cell) (K1:DK),ds[i]?=some d→S0 b=some c0→a0w c0→(∀ y c1,P y→a0w c1→K1 y (S0.set b c1))→a1w tg one d (a6C δ own) S0 fun δ2 S2=>den G elt δ2 S2 noX K1)
  (hl:∀ ys c',ys.length=ds.length→(∀ y∈ys,P y)→a0w c'→KK (.lst ys) (S.set b c')):LcK G false elt tg one .nn own δ KK ds ok S:=by
 intro p hp
 have apart:b≠p:=zad hb hp
 refine ⟨fun i S'=>∃ ys c',ys.length=i∧(∀ y∈ys,P y)∧a0w c'∧S'=(S.set b c').set p (.lst ys),⟨[],c,rfl,(fun _ z=>nomatch z),hc,by rw [SS.set_id hb]⟩,fun _ S' _ _=>hok S',?_,?_⟩
 ·rintro i d S' hd ⟨ys,c0,rfl,hP,hc0,rfl⟩
  have hi:ys.length < ds.length:=(List.getElem?_eq_some_iff.mp hd).1
  have at_b:((S.set b c0).set p (.lst ys)) b=some c0:=by rw [zaa apart,zab]
  refine a7y (fun δ2 S2 q=>?_) (hs p ys.length ys d _ c0 (fun y S4=>∃ acc,S4 p=some (.lst acc)∧acc.length < sizeLine∧∃ ys' c',ys'.length=ys.length + 1∧(∀ y∈ys',P y)∧a0w c'∧S4.set p (.lst (acc ++ [y]))=(S.set b c').set p (.lst ys')) hd at_b hc0 fun y c1 hy hc1=>?_)
  ·refine a9S ?_
   rw [if_pos rfl]
   exact q
  ·have e:((S.set b c0).set p (.lst ys)).set b c1=(S.set b c1).set p (.lst ys):=by rw [zae (Ne.symm apart),zac]
   rw [e]
   refine ⟨ys,zab,by omega,ys ++ [y],c1,by simp,fun w hw=>?_,hc1,by rw [zac]⟩
   rcases zap.mp hw with hw | hw
   ·exact hP w hw
   ·cases zaj.mp hw;exact hy
 ·rintro S' ⟨ys,c',hlen,hP,hc',rfl⟩
  refine ⟨ys,zab,?_⟩
  rw [if_neg zbe,zaf (by rw [zaa (Ne.symm apart)];exact hp)]
  exact hl ys c' hlen hP hc'
def c1e (y:D):Prop:=∃ ch,y=.str ⟨#[ch]⟩∧97≤ch∧ch≤122
theorem a8O:∀ (ys:List D),(∀ y∈ys,c1e y)→∃ cs:List Nat,ys=(cs.map fun ch=>(⟨#[ch]⟩:Str)).map D.str∧cs.length=ys.length∧∀ ch∈cs,97≤ch∧ch≤122
 | [],_=>⟨[],rfl,rfl,fun _ z=>nomatch z⟩
 | y :: ys,h=>by
  obtain ⟨cs,rfl,hl,hc⟩:=a8O ys fun w hw=>h w (zao _ hw)
  obtain ⟨ch,rfl,h1⟩:=h _ zal
  refine ⟨ch :: cs,rfl,by simp,fun w hw=>?_⟩
  rcases zau.mp hw with rfl | hw
  ·exact h1
  ·exact hc w hw
theorem a5m:∀ cs:List Nat,TL.joinL [] (cs.map fun ch=>[ch])=cs
 | []=>rfl
 | [_]=>rfl
 | a :: b :: r=>by
  have ih:=a5m (b :: r)
  rw [zax] at ih
  rw [zax,zax]
  show [a] ++ ([] ++ TL.joinL [] ([b] :: r.map fun ch=>[ch]))=a :: b :: r
  rw [ih]
  rfl
theorem a8H (cs:List Nat):Txt.join "" (cs.map fun ch=>(⟨#[ch]⟩:Str))=⟨cs.toArray⟩:=by
 have h:=SX.join_S [] (cs.map fun ch=>[ch])
 rw [zat,a5m] at h
 exact h
theorem b3e {u:Int} (h0:0≤u) (h1:u < 12):∃ z,atI [D.str "open",D.str "shut",D.str "by",D.str "step",D.str "none",D.str "paper",D.str "at",D.str "done",D.str "a",D.str "aa",D.str "ab",D.str "b"] u=some (.str z)∧Nm z:=by
 have key:∀ k:Fin 12,Nm ((["open", "shut", "by", "step", "none", "paper", "at", "done", "a", "aa", "ab", "b"]:List Str)[k.1]'k.2):=by decide +kernel
 obtain ⟨k,rfl⟩:=Int.eq_ofNat_of_zero_le h0
 have hk:k < 12:=by omega
 refine ⟨_,?_,key ⟨k,hk⟩⟩
 exact a1W (f:=D.str) (l:=["open", "shut", "by", "step", "none", "paper", "at", "done", "a", "aa", "ab", "b"]) (zbi (show k < 12 from hk))
theorem b2c {v:Int} (h0:0≤v) (h1:v < 4) (h2:¬ v=0):∃ n,atI [D.int 2,D.int 8,D.int 1] (v - 1)=some (.int n)∧0 < n∧n≤8:=by
 obtain rfl | rfl | rfl:v=1∨v=2∨v=3:=by omega
 ·exact ⟨2,rfl,by decide,by decide⟩
 ·exact ⟨8,rfl,by decide,by decide⟩
 ·exact ⟨1,rfl,by decide,by decide⟩
theorem b44 {u:Int} (h0:0≤u) (h1:u < 26):∃ ch,atI ("abcdefghijklmnopqrstuvwxyz" : Str).cps.toList u=some ch∧97≤ch∧ch≤122:=by
 have key:∀ k:Fin 26,97≤(("abcdefghijklmnopqrstuvwxyz" : Str).cps.toList)[k.1]'(by have:=k.2;exact Nat.lt_of_lt_of_eq this (by decide +kernel))∧(("abcdefghijklmnopqrstuvwxyz" : Str).cps.toList)[k.1]'(by have:=k.2;exact Nat.lt_of_lt_of_eq this (by decide +kernel))≤122:=by decide +kernel
 obtain ⟨k,rfl⟩:=Int.eq_ofNat_of_zero_le h0
 have hk:k < 26:=by omega
 exact ⟨_,atI_nat (zbi (Nat.lt_of_lt_of_eq hk (by decide +kernel))),key ⟨k,hk⟩⟩
theorem c2N (c:SaysX fa fn fx K):Meets ((tb K).sn N17) ((tb K).G K 17) 1 false a77 b17:=by
 refine Qt.put_in ?_
 simp (disch :=
 with_unfolding_all
 refine Qt.keep ?_
 rintro m hm ds S KK Y ⟨rfl,b,c0,rfl,hb,hc,hK⟩
 refine ⟨rfl,?_⟩
 show a0c _ b17 [some _,none,none,none,none] _ _ _
 unfold b17
 lia
 refine a0a (T:=a0v) rfl ?_
 lia
 refine ⟨rfl,b,4,c0,rfl,by decide,by decide,hb,hc,fun v c1 h0 h1 hc1=>?_⟩
 lia
 by_cases hv:v=0
 ·rw [if_pos (by simpa using hv)]
  lia
  refine a0a (T:=a0v) rfl ?_
  lia
  refine ⟨rfl,b,12,c1,rfl,by decide,by decide,zab,hc1,fun u c2 u0 u1 hc2=>?_⟩
  rw [zac]
  obtain ⟨z,ez,nz⟩:=b3e u0 u1
  exact a3V ez (hK z c2 nz hc2)
 ·rw [if_neg (by simpa using hv)]
  lia
  refine a0a (T:=a0v) rfl ?_
  lia
  obtain ⟨n,en,n0,n8⟩:=b2c h0 h1 hv
  refine a3V en ?_
  lia
  refine ⟨rfl,b,n,c1,rfl,n0,lg n0 (by omega),zab,hc1,fun k c2 k0 k1 hc2=>?_⟩
  rw [zac]
  lia
  have bd:=bnd (j:=1 + k) (by omega) (by omega)
  refine ⟨bd.1,bd.2,?_⟩
  refine b01 (P:=c1e) zab hc2 (by rw [a08,zai];omega) (fun _=>trivial) (fun p i acc d S0 c3 K1 hd hb0 hc3 hk=>?_) fun ys c4 hlen hP hc4=>?_
  ·refine a2G ?_
   lia
   refine a0a (T:=a0v) rfl ?_
   lia
   refine ⟨rfl,b,26,c3,rfl,by decide,by decide,hb0,hc3,fun u c5 u0 u1 hc5=>?_⟩
   obtain ⟨ch,ech,hch⟩:=b44 u0 u1
   exact c2G (by decide +kernel) ech (hk _ c5 ⟨ch,rfl,hch⟩ hc5)
  ·rw [zac]
   obtain ⟨cs,rfl,hl,hcs⟩:=a8O ys hP
   rw [a08,← hl] at hlen
   lia
   refine b4X ?_ ?_
   ·have e:∀ cs:List Nat,((cs.map fun ch=>(⟨#[ch]⟩:Str)).map (·.length)).sum=cs.length:=by
     intro cs
     induction cs with
     | nil=>rfl
     | cons a r ih=>rw [zax,zax,List.sum_cons,ih,zaz];show 1 + _=_;omega
    rw [e]
    have:("" : Str).length=0:=rfl
    rw [this]
    omega
   ·rw [a8H]
    refine hK _ c4 ⟨?_,?_,?_⟩ hc4
    ·show cs.toArray.toList.length≤8
     rw [List.toList_toArray];omega
    ·show 1≤cs.toArray.toList.length
     rw [List.toList_toArray];omega
    ·show ∀ c∈cs.toArray.toList,_
     rw [List.toList_toArray];exact hcs
 ) only [↓Qt.put_off]
def nmD (y:D):Prop:=∃ z,y=.str z∧Nm z
theorem b06:∀ (ys:List D),(∀ y∈ys,nmD y)→∃ zs:List Str,ys=zs.map D.str∧∀ z∈zs,Nm z
 | [],_=>⟨[],rfl,fun _ z=>nomatch z⟩
 | y :: ys,h=>by
  obtain ⟨zs,rfl,hc⟩:=b06 ys fun w hw=>h w (zao _ hw)
  obtain ⟨z,rfl,h1⟩:=h _ zal
  refine ⟨z :: zs,rfl,fun w hw=>?_⟩
  rcases zau.mp hw with rfl | hw
  ·exact h1
  ·exact hc w hw
theorem b2K {zs:List Str} {u:Int} (h:∀ z∈zs,Nm z) (h0:0≤u) (h1:u < ((zs.map D.str).length:Int)):∃ z,atI (zs.map D.str) u=some (.str z)∧z∈zs∧Nm z:=by
 obtain ⟨k,rfl⟩:=Int.eq_ofNat_of_zero_le h0
 rw [zag] at h1
 have hk:k < zs.length:=by omega
 exact ⟨zs[k],a1W (zbi hk),List.getElem_mem hk,h _ (List.getElem_mem hk)⟩
variable {K:zbj}
theorem a1b {α:Type} {f:α→D} {l:List (Str × α)} {z:Str}:(valD (a0B f l) (.inr z)).isSome=decide (z∈nms l):=a8W
theorem a1I {α:Type} {f:α→D} {l:List (Str × α)}:(a0B f l).map (·.1)=(nms l).map Sum.inr:=a8V
theorem a3b {n:Nat} (h:n≤1000):n < sizeLine:=by rw [zai];omega
theorem b1R {G:Gm} {S:SS} {i:Int} {Q:Bool→Prop} (k:Q true):∃ t b,tyD S (.int i)=some t∧a4S G S (.int i)∧PySem.W.kitOne G.K t ((Cn.ty "int").val G)=some b∧Q b:=a3s rfl trivial rfl k
theorem a98 {G:Gm} {S:SS} {i:Int} {Q:Bool→Prop} (k:Q false):∃ t b,tyD S (.int i)=some t∧a4S G S (.int i)∧PySem.W.kitOne G.K t ((Cn.ty "bool").val G)=some b∧Q b:=a3s rfl trivial rfl k
theorem a8D {G:Gm} {S:SS} {z:Str} {Q:Bool→Prop} (k:Q true):∃ t b,tyD S (.str z)=some t∧a4S G S (.str z)∧PySem.W.kitOne G.K t ((Cn.ty "str").val G)=some b∧Q b:=a3s rfl trivial rfl k
theorem me5 (c:SaysX fa fn fx K):Meets ((tb K).sn N5) ((tb K).G K 5) 1 false a4o b5:=by
 refine Qt.put_in ?_
 simp (disch :=
 with_unfolding_all
 refine Qt.keep ?_
 rintro m hm ds S KK Y ⟨rfl,i,rfl,hK⟩
 refine ⟨rfl,?_⟩
 show a0c _ b5 [some _] _ _ _
 unfold b5
 lia
 refine b1R ?_
 lia
 rw [if_pos rfl]
 lia
 refine a98 ?_
 lia
 exact hK
 ) only [↓Qt.put_off]
theorem c2S (c:SaysX fa fn fx K):Meets ((tb K).sn N22) ((tb K).G K 22) 1 false a5S b22:=by
 refine Qt.put_in ?_
 simp (disch :=
 with_unfolding_all
 refine Qt.keep ?_
 rintro m hm ds S KK Y ⟨rfl,i,rfl,h0,h1,hK⟩
 refine ⟨rfl,?_⟩
 show a0c _ b22 [some _] _ _ _
 unfold b22
 lia
 refine a0a (T:=a4o) rfl ?_
 lia
 refine ⟨rfl,i,rfl,?_⟩
 lia
 rw [if_pos rfl]
 lia
 rw [if_pos (zbg h0)]
 lia
 rw [zbg h1]
 exact hK
 ) only [↓Qt.put_off]
theorem me3 (c:SaysX fa fn fx K):Meets ((tb K).sn N3) ((tb K).G K 3) 2 false a1p b3:=by
 rintro m hm ds S KK Y ⟨rfl,x,rfl,hK⟩
 refine ⟨rfl,?_⟩
 show a0c _ b3 [some _,some _] _ _ _
 unfold b3
 lia
 rw [if_neg (by decide)]
 lia
 exact hK
theorem me7 (c:SaysX fa fn fx K):Meets ((tb K).sn N7) ((tb K).G K 7) 2 false (a2N K) b7:=by
 refine Qt.put_in ?_
 simp (disch :=
 with_unfolding_all
 refine Qt.keep ?_
 rintro m hm ds S KK Y ⟨rfl,z,p,α,f,l,rfl,at_p,h1,h2⟩
 refine ⟨rfl,?_⟩
 show a0c _ b7 [some _,some _] _ _ _
 unfold b7
 lia
 refine b2m at_p rfl ?_
 rw [a1b]
 lia
 by_cases h:z∈nms l
 ·rw [if_neg (by simpa using h)]
  lia
  exact h1 h
 ·rw [if_pos (by simpa using h)]
  lia
  exact a1C rfl rfl rfl (by lia;exact ⟨_,rfl,h2 h⟩)
 ) only [↓Qt.put_off]
theorem b2S {z:Str} {i:Nat} {d:D} (hz:Nm z) (h:(a0x z)[i]?=some d):∃ c,d=.str ⟨#[c]⟩∧97≤c∧c≤122:=by
 unfold a0x at h
 rw [zbh,zam] at h
 obtain ⟨c,hc,rfl⟩:=h
 exact ⟨c,rfl,hz.2.2 c (zaq hc)⟩
theorem letter {c:Nat} (h:97≤c∧c≤122):c∈("abcdefghijklmnopqrstuvwxyz" : Str).cps.toList:=by
 have key:∀ k:Fin 26,97 + k.1∈("abcdefghijklmnopqrstuvwxyz" : Str).cps.toList:=by decide +kernel
 have:=key ⟨c - 97,by omega⟩
 rwa [show 97 + (c - 97)=c by omega] at this
theorem ok4 (c:SaysX fa fn fx K):Meets ((tb K).sn N4) ((tb K).G K 4) 1 false a0M b4:=by
 refine Qt.put_in ?_
 simp (disch :=
 with_unfolding_all
 refine Qt.keep ?_
 rintro m hm ds S KK Y ⟨rfl,z,rfl,hz,hK⟩
 refine ⟨rfl,?_⟩
 show a0c _ b4 [some _,none] _ _ _
 unfold b4
 have hl:=hz.len
 lia
 refine a8D ?_
 lia
 rw [if_neg (by decide)]
 lia
 refine b43 (by rw [zai];omega) ?_
 lia
 rw [if_pos (by simp;omega)]
 lia
 rw [if_neg (by simp;omega)]
 lia
 refine ⟨fun i δ' S'=>∃ x,S'=S∧δ'=[some (.str z),x],⟨none,rfl,rfl⟩,fun _ _ _ _ _=>trivial,?_,?_⟩
 ·rintro i d δ' S' hd ⟨x,rfl,rfl⟩
  obtain ⟨ch,rfl,hch⟩:=b2S hz hd
  refine a2G ?_
  lia
  rw [if_neg (by simpa using letter hch)]
  lia
  exact ⟨_,rfl,rfl⟩
 ·rintro δ' S' ⟨x,rfl,rfl⟩
  lia
  exact hK
 ) only [↓Qt.put_off]
theorem me6 (c:SaysX fa fn fx K):Meets ((tb K).sn N6) ((tb K).G K 6) 2 false (a9P K) b6:=by
 refine Qt.put_in ?_
 simp (disch :=
 with_unfolding_all
 refine Qt.keep ?_
 rintro m hm ds S KK Y ⟨rfl,L,a,b,c',d,st,z,rfl,lay,h1,h2⟩
 refine ⟨rfl,?_⟩
 show a0c _ b6 [some _,some _] _ _ _
 unfold b6
 lia
 refine a0Z lay.L (a0b c) (a0I c) rfl ?_
 refine b1O lay.b rfl ?_
 rw [a1b]
 lia
 by_cases h:z∈nms st.lines
 ·rw [if_pos (by simpa using h)]
  lia
  rw [if_pos rfl]
  lia
  exact a1C rfl rfl rfl (by lia;exact ⟨_,rfl,h1 (.inl h)⟩)
 ·rw [if_neg (by simpa using h)]
  lia
  refine a0Z lay.L (a0b c) (a1e c) rfl ?_
  refine b1O lay.c rfl ?_
  rw [a1b]
  lia
  by_cases h':z∈nms st.drains
  ·rw [if_pos (by simpa using h')]
   lia
   exact a1C rfl rfl rfl (by lia;exact ⟨_,rfl,h1 (.inr h')⟩)
  ·rw [if_neg (by simpa using h')]
   lia
   exact h2 h h'
 ) only [↓Qt.put_off]
theorem c2R (c:SaysX fa fn fx K):Meets ((tb K).sn N21) ((tb K).G K 21) 2 false (a4l K) b21:=by
 refine Qt.put_in ?_
 simp (disch :=
 with_unfolding_all
 refine Qt.keep ?_
 rintro m hm ds S KK Y ⟨rfl,L,a,b,c',d,st,n,z,rfl,hz,lay,ok,ends⟩
 refine ⟨rfl,?_⟩
 show a0c _ b21 [some _,some _] _ _ _
 unfold b21
 lia
 refine a0a (T:=a1p) rfl ?_
 lia
 refine a0a (T:=TOr a0M (TQA NmP)) rfl ?_
 lia
 refine Or.inl ⟨rfl,z,rfl,hz,?_⟩
 lia
 refine ⟨rfl,_,rfl,?_⟩
 lia
 refine a0Z lay.L (a0b c) (a0H c) rfl ?_
 refine b1O lay.a rfl ?_
 rw [a1b]
 lia
 simp only [due] at ends
 by_cases h:z∈nms st.rooms
 ·rw [if_pos h] at ends
  rw [if_pos (by simpa using h)]
  lia
  exact a1C rfl rfl rfl (by lia;exact ⟨_,rfl,ends⟩)
 ·rw [if_neg h] at ends
  rw [if_neg (by simpa using h)]
  lia
  refine a0Z lay.L (a0b c) (a0H c) rfl ?_
  lia
  refine b2a lay.a ?_
  rw [a0D]
  lia
  have few:=ok.r
  by_cases h':st.rooms.length=24
  ·rw [if_pos h'] at ends
   rw [if_pos (by simp;omega)]
   lia
   exact a1C rfl rfl rfl (by lia;exact ⟨_,rfl,ends⟩)
  ·rw [if_neg h'] at ends
   rw [if_neg (by simp;omega)]
   lia
   refine a0Z lay.L (a0b c) (a0H c) rfl ?_
   lia
   refine a5F lay.a rfl (by rw [a0D];exact a3b (by omega)) ?_
   rw [show (D.bl true)=fU () from rfl,a06 h]
   lia
   exact ends
 ) only [↓Qt.put_off]
theorem c2T (c:SaysX fa fn fx K):Meets ((tb K).sn N23) ((tb K).G K 23) 2 false (a2H K) b23:=by
 refine Qt.put_in ?_
 simp (disch :=
 with_unfolding_all
 refine Qt.keep ?_
 rintro m hm ds S KK Y ⟨rfl,L,a,b,c',d,st,n,z,rfl,hz,lay,ok,hn,ends⟩
 refine ⟨rfl,?_⟩
 show a0c _ b23 [some _,some _] _ _ _
 unfold b23
 lia
 refine a0a (T:=a1p) rfl ?_
 lia
 refine a0a (T:=TOr a0M (TQA NmP)) rfl ?_
 lia
 refine Or.inl ⟨rfl,z,rfl,hz,?_⟩
 lia
 refine ⟨rfl,_,rfl,?_⟩
 lia
 refine a0a (T:=a2N K) rfl ?_
 lia
 refine a0Z lay.L (a0b c) (a0H c) rfl ?_
 lia
 simp only [due] at ends
 refine ⟨rfl,z,a,Unit,fU,st.rooms,rfl,lay.a,fun h=>?_,fun h=>?_⟩
 ·rw [if_pos h] at ends
  lia
  refine a0Z lay.L (a0b c) (a2t c) rfl ?_
  refine b1O lay.d rfl ?_
  rw [a1b]
  lia
  by_cases h':z∈nms st.pushed
  ·rw [if_pos h'] at ends
   rw [if_pos (by simpa using h')]
   lia
   exact a1C rfl rfl rfl (by lia;exact ⟨_,rfl,ends⟩)
  ·rw [if_neg h'] at ends
   rw [if_neg (by simpa using h')]
   lia
   refine a0Z lay.L (a0b c) (a2t c) rfl ?_
   lia
   refine a5F lay.d rfl (by rw [a0D];have:=ok.p;exact a3b (by omega)) ?_
   rw [show (D.bl true)=fU () from rfl,a06 h']
   lia
   exact ends
 ·rw [if_neg h] at ends
  exact ends
 ) only [↓Qt.put_off]
theorem c2U (c:SaysX fa fn fx K):Meets ((tb K).sn N24) ((tb K).G K 24) 3 false (a3g K) b24:=by
 refine Qt.put_in ?_
 simp (disch :=
 with_unfolding_all
 refine Qt.keep ?_
 rintro m hm ds S KK Y ⟨rfl,L,a,b,c',d,st,n,z,r,rfl,hz,lay,ok,ends⟩
 refine ⟨rfl,?_⟩
 show a0c _ b24 [some _,some _,some _] _ _ _
 unfold b24
 lia
 refine a0a (T:=a1p) rfl ?_
 lia
 refine a0a (T:=TOr a0M (TQA NmP)) rfl ?_
 lia
 refine Or.inl ⟨rfl,z,rfl,hz.1,?_⟩
 lia
 refine ⟨rfl,_,rfl,?_⟩
 lia
 refine a0a (T:=a1p) rfl ?_
 lia
 refine a0a (T:=TOr a0M (TQA NmP)) rfl ?_
 lia
 refine Or.inl ⟨rfl,r,rfl,hz.2,?_⟩
 lia
 refine ⟨rfl,_,rfl,?_⟩
 lia
 refine a5c (T:=a9P K) rfl ?_
 lia
 refine a5x lay.L rfl ?_
 lia
 simp only [due] at ends
 refine ⟨rfl,L,a,b,c',d,st,z,rfl,lay,fun h=>?_,fun h h'=>?_⟩
 ·rw [if_pos h] at ends
  exact ends
 ·rw [if_neg (fun z=>z.elim h h')] at ends
  lia
  refine a0a (T:=a2N K) rfl ?_
  lia
  refine a0Z lay.L (a0b c) (a0H c) rfl ?_
  lia
  refine ⟨rfl,r,a,Unit,fU,st.rooms,rfl,lay.a,fun hr=>?_,fun hr=>?_⟩
  ·rw [show a0A st [r]=none from by unfold a0A a0A;rw [if_pos hr]] at ends
   lia
   refine a0Z lay.L (a0b c) (a1e c) rfl ?_
   lia
   refine b2a lay.c ?_
   rw [a0D]
   lia
   have few:=ok.d
   by_cases h2:st.drains.length=12
   ·rw [if_pos h2] at ends
    rw [if_pos (by simp;omega)]
    lia
    exact a1C rfl rfl rfl (by lia;exact ⟨_,rfl,ends⟩)
   ·rw [if_neg h2] at ends
    rw [if_neg (by simp;omega)]
    lia
    refine a0Z lay.L (a0b c) (a1e c) rfl ?_
    lia
    refine a5F lay.c rfl (by rw [a0D];exact a3b (by omega)) ?_
    rw [show (D.str r)=fS r from rfl,a06 h']
    lia
    exact ends
  ·rw [show a0A st [r]=some (.lacks r) from by unfold a0A;rw [if_neg hr]] at ends
   exact ends
 ) only [↓Qt.put_off]
theorem c20 (c:SaysX fa fn fx K):Meets ((tb K).sn N30) ((tb K).G K 30) 5 false (a2W K) b30:=by
 refine Qt.put_in ?_
 simp (disch :=
 with_unfolding_all
 refine Qt.keep ?_
 rintro m hm ds S KK Y ⟨rfl,L,a,b,c',d,st,n,z,x,y,k,rfl,hz,lay,ok,ends⟩
 refine ⟨rfl,?_⟩
 show a0c _ b30 [some _,some _,some _,some _,some _] _ _ _
 unfold b30
 lia
 refine a0a (T:=a1p) rfl ?_
 lia
 refine a0a (T:=TOr a0M (TQA NmP)) rfl ?_
 lia
 refine Or.inl ⟨rfl,z,rfl,hz.1,?_⟩
 lia
 refine ⟨rfl,_,rfl,?_⟩
 lia
 refine a0a (T:=a1p) rfl ?_
 lia
 refine a0a (T:=TOr a0M (TQA NmP)) rfl ?_
 lia
 refine Or.inl ⟨rfl,x,rfl,hz.2.1,?_⟩
 lia
 refine ⟨rfl,_,rfl,?_⟩
 lia
 refine a0a (T:=a1p) rfl ?_
 lia
 refine a0a (T:=TOr a0M (TQA NmP)) rfl ?_
 lia
 refine Or.inl ⟨rfl,y,rfl,hz.2.2.1,?_⟩
 lia
 rw [if_pos rfl]
 lia
 rw [show (!decide (y=x))=true from by simpa using hz.2.2.2.1]
 refine ⟨rfl,_,rfl,?_⟩
 lia
 refine a0a (T:=a1p) rfl ?_
 lia
 refine a0a (T:=a5S) rfl ?_
 lia
 refine ⟨rfl,k,rfl,hz.2.2.2.2.1,hz.2.2.2.2.2,?_⟩
 lia
 refine ⟨rfl,_,rfl,?_⟩
 lia
 refine a5c (T:=a9P K) rfl ?_
 lia
 refine a5x lay.L rfl ?_
 lia
 simp only [due] at ends
 refine ⟨rfl,L,a,b,c',d,st,z,rfl,lay,fun h=>?_,fun h h'=>?_⟩
 ·rw [if_pos h] at ends
  exact ends
 ·rw [if_neg (fun z=>z.elim h h')] at ends
  lia
  refine a0a (T:=a2N K) rfl ?_
  lia
  refine a0Z lay.L (a0b c) (a0H c) rfl ?_
  lia
  refine ⟨rfl,x,a,Unit,fU,st.rooms,rfl,lay.a,fun hr=>?_,fun hr=>?_⟩
  ·lia
   refine a0a (T:=a2N K) rfl ?_
   lia
   refine a0Z lay.L (a0b c) (a0H c) rfl ?_
   lia
   refine ⟨rfl,y,a,Unit,fU,st.rooms,rfl,lay.a,fun hr2=>?_,fun hr2=>?_⟩
   ·rw [show a0A st [x,y]=none from by unfold a0A a0A a0A;rw [if_pos hr,if_pos hr2]] at ends
    lia
    refine a0Z lay.L (a0b c) (a0I c) rfl ?_
    lia
    refine b2a lay.b ?_
    rw [a0D]
    lia
    have few:=ok.l
    by_cases h2:st.lines.length=40
    ·rw [if_pos h2] at ends
     rw [if_pos (by simp;omega)]
     lia
     exact a1C rfl rfl rfl (by lia;exact ⟨_,rfl,ends⟩)
    ·rw [if_neg h2] at ends
     rw [if_neg (by simp;omega)]
     lia
     refine a0Z lay.L (a0b c) (a0I c) rfl ?_
     lia
     refine a5F lay.b rfl (by rw [a0D];exact a3b (by omega)) ?_
     rw [show (D.tup [.str x,.str y,.int k])=fL (x,y,k) from rfl,a06 h]
     lia
     exact ends
   ·rw [show a0A st [x,y]=some (.lacks y) from by unfold a0A a0A;rw [if_pos hr,if_neg hr2]] at ends
    exact ends
  ·rw [show a0A st [x,y]=some (.lacks x) from by unfold a0A;rw [if_neg hr]] at ends
   exact ends
 ) only [↓Qt.put_off]
theorem a1K {α:Type} {l:List (Str × α)} {z:Str} (h:z∈nms l):∃ q,l.lookup z=some q:=by
 have e:(l.lookup z).isSome=decide (z∈nms l):=lookup_some
 rw [zbg h] at e
 exact Option.isSome_iff_exists.mp e
theorem b0V {S:SS} {KK:DK} {p:Addr} {kvs:List (Key × D)} {k:D} {key:Key} {d:D} (h:S p=some (.dic kvs)) (hk:keyD k=some key) (e:valD kvs key=some d) (kk:KK d (S.set p (.dic (a4w kvs key)))):Mn.dpop.den (.obj p) [k] S KK:=⟨kvs,key,d,h,hk,e,kk⟩
theorem a5t {α:Type} {f:α→D} {l:List (Str × α)} {z:Str}:a4w (a0B f l) (.inr z)=a0B f (without l z):=by
 unfold a4w a0B without
 rw [List.filter_map]
 refine congrArg (List.map _) (List.filter_congr fun q _=>?_)
 exact decide_eq_decide.mpr ⟨fun h e=>h (by show (Sum.inr q.1:Key)=_;rw [e]),fun h e=>h (Sum.inr.inj e)⟩
theorem c2X (c:SaysX fa fn fx K):Meets ((tb K).sn N27) ((tb K).G K 27) 2 false (a3j K) b27:=by
 refine Qt.put_in ?_
 simp (disch :=
 with_unfolding_all
 refine Qt.keep ?_
 rintro m hm ds S KK Y ⟨rfl,L,a,b,c',d,st,z,rfl,hz,lay,ends⟩
 refine ⟨rfl,?_⟩
 show a0c _ b27 [some _,some _] _ _ _
 unfold b27
 simp only [due] at ends
 lia
 refine a0a (T:=a1p) rfl ?_
 lia
 refine a0a (T:=TOr a0M (TQA NmP)) rfl ?_
 lia
 refine Or.inl ⟨rfl,z,rfl,hz,?_⟩
 lia
 refine ⟨rfl,_,rfl,?_⟩
 lia
 refine a0a (T:=a2N K) rfl ?_
 lia
 refine a0Z lay.L (a0b c) (a0I c) rfl ?_
 lia
 refine ⟨rfl,z,b,_,fL,st.lines,rfl,lay.b,fun h=>?_,fun h=>?_⟩
 ·rw [if_pos h] at ends
  lia
  refine a0Z lay.L (a0b c) (a0I c) rfl ?_
  refine ⟨c1i lay.b,?_⟩
  lia
  obtain ⟨q,hq⟩:=a1K h
  refine b0V lay.b rfl (by rw [a0O,hq];rfl) ?_
  rw [a5t]
  lia
  exact ends
 ·rw [if_neg h] at ends
  exact ends
 ) only [↓Qt.put_off]
variable {K:zbj}
theorem me2 (c:SaysX fa fn fx K):Meets ((tb K).sn N2) ((tb K).G K 2) 1 false (a9O K) b2:=by
 refine Qt.put_in ?_
 simp (disch :=
 with_unfolding_all
 refine Qt.keep ?_
 rintro m hm ds S KK Y ⟨rfl,p,rfl,at_p,hK⟩
 refine ⟨rfl,?_⟩
 show a0c _ b2 [some _] _ _ _
 unfold b2
 lia
 refine a3m fun a fa=>?_
 have ap:p≠a:=zad at_p fa
 lia
 refine ⟨p,lc K,[],rfl,by rw [zaa ap];exact at_p,a0b c,a0H c,by show 0 < 1000;decide,?_⟩
 lia
 refine a3m fun b fb=>?_
 have bp:p≠b:=zad zab fb
 rw [zaa (Ne.symm bp)] at fb
 have ba:a≠b:=zad zab fb
 rw [zaa (Ne.symm ba)] at fb
 lia
 refine ⟨p,lc K,_,rfl,by rw [zaa bp];exact zab,a0b c,a0I c,by show 1 < 1000;decide,?_⟩
 lia
 refine a3m fun d fd=>?_
 have dp:p≠d:=zad zab fd
 rw [zaa (Ne.symm dp)] at fd
 have db:b≠d:=zad zab fd
 rw [zaa (Ne.symm db),zaa (Ne.symm dp)] at fd
 have da:a≠d:=zad zab fd
 rw [zaa (Ne.symm da)] at fd
 lia
 refine ⟨p,lc K,_,rfl,by rw [zaa dp];exact zab,a0b c,a1e c,by show 2 < 1000;decide,?_⟩
 lia
 refine a3m fun e fe=>?_
 have ep:p≠e:=zad zab fe
 rw [zaa (Ne.symm ep)] at fe
 have ed:d≠e:=zad zab fe
 rw [zaa (Ne.symm ed),zaa (Ne.symm ep)] at fe
 have eb:b≠e:=zad zab fe
 rw [zaa (Ne.symm eb),zaa (Ne.symm ep)] at fe
 have ea:a≠e:=zad zab fe
 rw [zaa (Ne.symm ea)] at fe
 lia
 refine ⟨p,lc K,_,rfl,by rw [zaa ep];exact zab,a0b c,a2t c,by show 3 < 1000;decide,?_⟩
 lia
 have h:=hK a b d e (Ne.symm ap) (Ne.symm bp) (Ne.symm dp) (Ne.symm ep) ba da ea db eb ed fa fb fd fe
 refine (congrArg (KK .non) (?_:_=a9d (lc K) S p a b d e)).mpr h
 funext q
 unfold a9d SS.set
 by_cases h1:q=p
 ·simp only [h1,if_true];rfl
 ·by_cases h2:q=a
  ·simp [h2,ap.symm,ba,da,ea]
  ·by_cases h3:q=b
   ·simp [h3,bp.symm,ba.symm,db,eb]
   ·by_cases h4:q=d
    ·simp [h4,dp.symm,da.symm,db.symm,ed]
    ·by_cases h5:q=e
     ·simp [h5,ep.symm,ea.symm,eb.symm,ed.symm]
     ·simp [h1,h2,h3,h4,h5]
 ) only [↓Qt.put_off]
theorem me8 (c:SaysX fa fn fx K):Meets ((tb K).sn N8) ((tb K).G K 8) 2 false a3W b8:=by
 refine Qt.put_in ?_
 simp (disch :=
 with_unfolding_all
 refine Qt.keep ?_
 rintro m hm ds S KK Y ⟨rfl,x,rfl,hx,hK⟩
 refine ⟨rfl,?_⟩
 show a0c _ b8 [some _,some _] _ _ _
 unfold b8
 lia
 refine a9R hx ?_
 lia
 rw [if_pos rfl]
 lia
 refine b5B hx ?_
 lia
 refine b5B hx ?_
 lia
 rw [zbg rfl]
 exact hK
 ) only [↓Qt.put_off]
theorem a1Y {α:Type} {l:List (Str × α)} {z:Str} {q:α} (h:l.lookup z=some q):z∈nms l:=by
 have e:=lookup_some (l:=l) (z:=z)
 rw [h] at e
 exact of_decide_eq_true e.symm
theorem c2W (c:SaysX fa fn fx K):Meets ((tb K).sn N26) ((tb K).G K 26) 2 false (a76 K) b26:=by
 refine Qt.put_in ?_
 simp (disch :=
 with_unfolding_all
 refine Qt.keep ?_
 rintro m hm ds S KK Y ⟨rfl,L,a,b,c',d,st,z,q,rfl,hz,lay,look,hK⟩
 refine ⟨rfl,?_⟩
 show a0c _ b26 [some _,some _] _ _ _
 unfold b26
 lia
 refine a0a (T:=a1p) rfl ?_
 lia
 refine a0a (T:=TOr a0M (TQA NmP)) rfl ?_
 lia
 refine Or.inl ⟨rfl,z,rfl,hz,?_⟩
 lia
 refine ⟨rfl,_,rfl,?_⟩
 lia
 refine a0a (T:=a2N K) rfl ?_
 lia
 refine a0Z lay.L (a0b c) (a0I c) rfl ?_
 lia
 refine ⟨rfl,z,b,_,fL,st.lines,rfl,lay.b,fun h=>?_,fun h=>absurd (a1Y look) h⟩
 lia
 refine a0Z lay.L (a0b c) (a0I c) rfl ?_
 lia
 exact a2F lay.b rfl (by rw [a0O,look];rfl) hK
 ) only [↓Qt.put_off]
theorem c2J (c:SaysX fa fn fx K):Meets ((tb K).sn N13) ((tb K).G K 13) 1 false (a2j K fun st=>nms st.rooms) b13:=by
 rintro m hm ds S KK Y ⟨rfl,L,a,b,c',d,st,rfl,lay,few,hK⟩
 refine ⟨rfl,?_⟩
 show a0c _ b13 [some _] _ _ _
 unfold b13
 lia
 refine a0Z lay.L (a0b c) (a0H c) rfl ?_
 lia
 exact a7O lay.a a1I few hK
theorem c2H (c:SaysX fa fn fx K):Meets ((tb K).sn N10) ((tb K).G K 10) 1 false (a2j K fun st=>nms st.lines) b10:=by
 rintro m hm ds S KK Y ⟨rfl,L,a,b,c',d,st,rfl,lay,few,hK⟩
 refine ⟨rfl,?_⟩
 show a0c _ b10 [some _] _ _ _
 unfold b10
 lia
 refine a0Z lay.L (a0b c) (a0I c) rfl ?_
 lia
 exact a7O lay.b a1I few hK
theorem c2K (c:SaysX fa fn fx K):Meets ((tb K).sn N14) ((tb K).G K 14) 1 false (a2j K fun st=>nms st.drains) b14:=by
 rintro m hm ds S KK Y ⟨rfl,L,a,b,c',d,st,rfl,lay,few,hK⟩
 refine ⟨rfl,?_⟩
 show a0c _ b14 [some _] _ _ _
 unfold b14
 lia
 refine a0Z lay.L (a0b c) (a1e c) rfl ?_
 lia
 exact a7O lay.c a1I few hK
theorem c2L (c:SaysX fa fn fx K):Meets ((tb K).sn N15) ((tb K).G K 15) 1 false (a2j K fun st=>nms st.pushed) b15:=by
 rintro m hm ds S KK Y ⟨rfl,L,a,b,c',d,st,rfl,lay,few,hK⟩
 refine ⟨rfl,?_⟩
 show a0c _ b15 [some _] _ _ _
 unfold b15
 lia
 refine a0Z lay.L (a0b c) (a2t c) rfl ?_
 lia
 exact a7O lay.d a1I few hK
theorem a4A {α:Type} {f:α→D} {l:List (Str × α)}:(a0B f l).map (fun kv=>keyV kv.1)=(nms l).map D.str:=by
 unfold a0B nms
 rw [zat,zat]
 rfl
theorem a7J {zs:List Str} (h:zs.length≤64) (hz:∀ z∈zs,Nm z):Plain (.lst (zs.map D.str)):=by
 apply b0t
 simp only [smD,zak,zah,zag]
 refine ⟨by decide,h,?_⟩
 clear h
 induction zs with
 | nil=>rfl
 | cons z zs ih =>
  simp only [zax,b3m,smD,zak,zah]
  have hz1:=hz z zal
  refine ⟨⟨?_,hz1.fine⟩,ih fun w hw=>hz w (zao _ hw)⟩
  have:=hz1.1
  rw [Array.length_toList] at this
  omega
theorem b2n {z:Str} (h:Nm z):z.cps.size≤64:=by
 have:=h.1
 rw [Array.length_toList] at this
 omega
theorem a0S {zs:List Str} {z:Str}:z∈a0i zs↔z∈zs:=(List.mergeSort_perm zs leS).mem_iff
theorem a4N {zs:List Str}:(a0i zs).length=zs.length:=(List.mergeSort_perm zs leS).length_eq
theorem Ok.room {n:Nat} {st:Lay} (h:Ok n st) {z:Str} (hz:z∈nms st.rooms):Nm z:=by
 obtain ⟨q,hq,rfl⟩:=zan.mp hz
 exact h.nr q hq
theorem Ok.line {n:Nat} {st:Lay} (h:Ok n st) {z:Str} (hz:z∈nms st.lines):Nm z:=by
 obtain ⟨q,hq,rfl⟩:=zan.mp hz
 exact (h.nl q hq).1
theorem Ok.drain {n:Nat} {st:Lay} (h:Ok n st) {z:Str} (hz:z∈nms st.drains):Nm z:=by
 obtain ⟨q,hq,rfl⟩:=zan.mp hz
 exact (h.nd q hq).1
theorem Ok.source {n:Nat} {st:Lay} (h:Ok n st) {z:Str} (hz:z∈nms st.pushed):Nm z:=by
 obtain ⟨q,hq,rfl⟩:=zan.mp hz
 exact h.np q hq
theorem a2e.lock {C:Addr} {S:SS} {L a b c d p:Addr} {st:Lay} {kvs:List (Key × D)} (h:a2e C S L a b c d st) (h1:p≠L) (h2:p≠a) (h3:p≠b) (h4:p≠c) (h5:p≠d):a2e C (S.set p (.loc kvs)) L a b c d st :=
 ⟨by rw [zaa h1.symm];exact h.L,by rw [zaa h2.symm];exact h.a,by rw [zaa h3.symm];exact h.b,by rw [zaa h4.symm];exact h.c,by rw [zaa h5.symm];exact h.d⟩
variable {K:zbj}
theorem a4Q {G:Gs} {δ:DS} {S:SS} {Y:XD'} {F:SE} {tg:List Nat} {e:RE} (hm:G.m0=none) (h:den G.toGm e δ S Y fun d S1=>a1w tg false d δ S1 F.nx):a0l G (.asg tg false e) δ S Y F:=by rw [a0l];exact ⟨fun _=>hm,h⟩
theorem b1b {G:Gs} {δ:DS} {S:SS} {Y:XD'} {F:SE} {i:Nat} {a:Addr} {ds:List D} {r:RSs} (at_i:δ[i]?=some (some (.obj a))) (at_a:S a=some (.lst ds)) (h:a0c G r (δ.set i (some (.lst ds))) (S.del a) Y F):a0c G (.frz i r) δ S Y F:=by
 rw [a0c]
 exact .inr ⟨a,at_i,.inl ⟨ds,at_a,h⟩⟩
theorem a9x {G:Gs} {δ:DS} {S:SS} {Y:XD'} {F:SE} {i:Nat} {a:Addr} {ds:List (Key × D)} {r:RSs} (at_i:δ[i]?=some (some (.obj a))) (at_a:S a=some (.dic ds)) (h:a0c G r (δ.set i (some (.dic ds))) (S.del a) Y F):a0c G (.frz i r) δ S Y F:=by
 rw [a0c]
 exact .inr ⟨a,at_i,.inr ⟨ds,at_a,h⟩⟩
theorem a9M.nil {rs zs:List Str}:a9M rs zs []:=⟨List.nodup_nil,Nat.zero_le _,fun _ h=>nomatch h⟩
theorem a9M.skip {rs zs:List Str} {z:Str} {ls:List (Str × Str × Str × Int)} (h:a9M rs zs ls):a9M rs (zs ++ [z]) ls :=
 ⟨h.u,by rw [zaw];exact Nat.le_add_right_of_le h.few,fun q hq=>⟨zar _ (h.one q hq).1,(h.one q hq).2⟩⟩
theorem a9M.add {rs zs:List Str} {z x y:Str} {k:Int} {ls:List (Str × Str × Str × Int)} (h:a9M rs zs ls) (new:z∉zs) (hx:x∈rs) (hy:y∈rs) (ne:y≠x) (k0:0≤k) (k1:k≤99):a9M rs (zs ++ [z]) (ls ++ [(z,x,y,k)]):=by
 refine ⟨?_,by rw [zaw,zaw];exact Nat.add_le_add_right h.few 1,fun q hq=>?_⟩
 ·unfold nms
  rw [zav]
  refine List.nodup_append.mpr ⟨h.u,by simp,fun a ha b hb e=>new ?_⟩
  have hb:b=z:=by simpa using hb
  obtain ⟨q,hq,rfl⟩:=zan.mp ha
  rw [← hb,← e]
  exact (h.one q hq).1
 ·rcases zap.mp hq with hq | hq
  ·exact ⟨zar _ (h.one q hq).1,(h.one q hq).2⟩
  ·cases zaj.mp hq
   exact ⟨zas _ (zaj.mpr rfl),hx,hy,ne,k0,k1⟩
theorem a2Y {xs:List D} {k:Nat} (h:k≤xs.length):Sv.cutD xs (some (k:Int)) none=xs.drop k:=by
 unfold Sv.cutD
 rw [HT.sIx_none,HT.sIx_nat,Nat.min_eq_left h]
 exact List.take_of_length_le (by rw [List.length_drop];exact Nat.le_refl _)
theorem b3d {w:Wo} {e:Addr} {f:List Str}:valD (mW w e f) (.inr "rooms")=some (.lst ((a0i w.rooms).map D.str)):=rfl
theorem a6B {w:Wo} {e:Addr} {f:List Str}:valD (mW w e f) (.inr "drawn")=some (.lst (f.map D.str)):=rfl
theorem a0F {w:Wo} {e:Addr} {f:List Str}:valD (mW w e f) (.inr "lines")=some (.obj e):=rfl
theorem a5N {w:Wo} {e:Addr} {f:List Str}:valD (mW w e f) (.inr "sources")=some (.lst (w.srcs.map D.str)):=rfl
theorem a0w.nd {S:SS} {b q:Addr} {c:Cell} {k:List (Key × D)} (hb:S b=some c) (hc:a0w c) (h:S q=some (.dic k)):q≠b:=fun e=>by
 obtain ⟨x,y,z,cells,rfl,_⟩:=hc
 rw [e,hb] at h
 cases h
theorem MW.bag {S:SS} {M e b:Addr} {f:List Str} {w:Wo} {c c':Cell} (h:MW S M e f w) (hb:S b=some c) (hc:a0w c):MW (S.set b c') M e f w :=
 ⟨h.Me,by rw [zaa (hc.nd hb h.M)];exact h.M,by rw [zaa (hc.nd hb h.e)];exact h.e⟩
def swD (w:Wo):D→Bool
 | .str z=>match w.lines.lookup z with
  | some q=>decide (0 < q.2.2)
  | none=>false
 | _=>false
theorem a05 {α:Type} {l:List (Str × α)} (h:(nms l).Nodup) {q:Str × α} (hq:q∈l):l.lookup q.1=some q.2:=by
 induction l with
 | nil=>cases hq
 | cons p l ih =>
  have h':=zbd.mp (show (p.1 :: nms l).Nodup from h)
  rw [List.lookup_cons]
  rcases zau.mp hq with rfl | hq
  ·rw [beq_self_eq_true]
  ·have ne:q.1≠p.1:=fun e=>h'.1 (by rw [← e];exact zan.mpr ⟨q,hq,rfl⟩)
   rw [beq_eq_false_iff_ne.mpr ne]
   exact ih h'.2 hq
theorem a8J {α:Type} {f:α→D} {l:List (Str × α)} {i:Nat} {d:D} (h:((a0B f l).map fun kv=>keyV kv.1)[i]?=some d):∃ q,d=.str q.1∧l[i]?=some q:=by
 rw [a4A] at h
 unfold nms at h
 rw [zat,zbh,zam] at h
 obtain ⟨q,hq,rfl⟩:=h
 exact ⟨q,rfl,hq⟩
theorem b2Y {w:Wo} (ok:a2f w):((((a0B fL w.lines).map fun kv=>keyV kv.1).filter (swD w)).map id)=(a0r w).map D.str:=by
 rw [List.map_id,a4A,List.filter_map]
 unfold a0r
 refine congrArg (List.map D.str) ?_
 show ((w.lines.map (·.1)).filter (swD w ∘ D.str))=(w.lines.filter fun q=>decide (0 < q.2.2.2)).map (·.1)
 rw [List.filter_map]
 refine congrArg (fun l:List (Str × Str × Str × Int)=>l.map (·.1)) (List.filter_congr fun q hq=>?_)
 show swD w (.str q.1)=_
 simp only [swD,a05 ok.lu hq]
variable {K:zbj}
theorem a2e.bag {C:Addr} {S:SS} {L a b c d g:Addr} {st:Lay} {x x':Cell} (h:a2e C S L a b c d st) (hg:S g=some x) (hx:a0w x):a2e C (S.set g x') L a b c d st:=by
 have nL:L≠g:=fun e=>by
  obtain ⟨_,_,_,_,rfl,_⟩:=hx
  have:=h.L
  rw [e,hg] at this
  cases this
 exact ⟨by rw [zaa nL];exact h.L,by rw [zaa (hx.nd hg h.a)];exact h.a,by rw [zaa (hx.nd hg h.b)];exact h.b,by rw [zaa (hx.nd hg h.c)];exact h.c,by rw [zaa (hx.nd hg h.d)];exact h.d⟩
theorem a1V.bag {C:Addr} {S:SS} {L a b c d g:Addr} {st:Lay} {x x':Cell} (h:a1V C S L a b c d st) (hg:S g=some x) (hx:a0w x):a1V C (S.set g x') L a b c d st:=⟨h.s.bag hg hx,h.ab,h.ac,h.ad,h.bc,h.bd,h.cd⟩
theorem a2e.ne {C:Addr} {S:SS} {L a b c d q:Addr} {st:Lay} {k:List (Key × D)} (h:a2e C S L a b c d st) (hq:S q=some (.dic k)):L≠q:=fun e=>by
 have:=h.L
 rw [e,hq] at this
 cases this
theorem a1V.rooms {C:Addr} {S:SS} {L a b c d:Addr} {st:Lay} (h:a1V C S L a b c d st) (x:List (Str × Unit)):a1V C (S.set a (.dic (a0B fU x))) L a b c d { st with rooms:=x } :=
 ⟨⟨by rw [zaa (h.s.ne h.s.a)];exact h.s.L,zab,by rw [zaa h.ab.symm];exact h.s.b,by rw [zaa h.ac.symm];exact h.s.c,by rw [zaa h.ad.symm];exact h.s.d⟩,h.ab,h.ac,h.ad,h.bc,h.bd,h.cd⟩
theorem a1V.lines {C:Addr} {S:SS} {L a b c d:Addr} {st:Lay} (h:a1V C S L a b c d st) (x:List (Str × Str × Str × Int)):a1V C (S.set b (.dic (a0B fL x))) L a b c d { st with lines:=x } :=
 ⟨⟨by rw [zaa (h.s.ne h.s.b)];exact h.s.L,by rw [zaa h.ab];exact h.s.a,zab,by rw [zaa h.bc.symm];exact h.s.c,by rw [zaa h.bd.symm];exact h.s.d⟩,h.ab,h.ac,h.ad,h.bc,h.bd,h.cd⟩
theorem a1V.drains {C:Addr} {S:SS} {L a b c d:Addr} {st:Lay} (h:a1V C S L a b c d st) (x:List (Str × Str)):a1V C (S.set c (.dic (a0B fS x))) L a b c d { st with drains:=x } :=
 ⟨⟨by rw [zaa (h.s.ne h.s.c)];exact h.s.L,by rw [zaa h.ac];exact h.s.a,by rw [zaa h.bc];exact h.s.b,zab,by rw [zaa h.cd.symm];exact h.s.d⟩,h.ab,h.ac,h.ad,h.bc,h.bd,h.cd⟩
theorem a1V.pushed {C:Addr} {S:SS} {L a b c d:Addr} {st:Lay} (h:a1V C S L a b c d st) (x:List (Str × Unit)):a1V C (S.set d (.dic (a0B fU x))) L a b c d { st with pushed:=x } :=
 ⟨⟨by rw [zaa (h.s.ne h.s.d)];exact h.s.L,by rw [zaa h.ad];exact h.s.a,by rw [zaa h.bd];exact h.s.b,by rw [zaa h.cd];exact h.s.c,zab⟩,h.ab,h.ac,h.ad,h.bc,h.bd,h.cd⟩
theorem a1V.off {C:Addr} {S:SS} {L a b c d q:Addr} {st:Lay} {x:Cell} (h:a1V C S L a b c d st) (h1:q≠L) (h2:q≠a) (h3:q≠b) (h4:q≠c) (h5:q≠d):a1V C (S.set q x) L a b c d st :=
 ⟨⟨by rw [zaa h1.symm];exact h.s.L,by rw [zaa h2.symm];exact h.s.a,by rw [zaa h3.symm];exact h.s.b,by rw [zaa h4.symm];exact h.s.c,by rw [zaa h5.symm];exact h.s.d⟩,h.ab,h.ac,h.ad,h.bc,h.bd,h.cd⟩
theorem a2e.put {C:Addr} {S:SS} {L a b c d:Addr} (aL:a≠L) (bL:b≠L) (cL:c≠L) (dL:d≠L) (ab:a≠b) (ac:a≠c) (ad:a≠d) (bc:b≠c) (bd:b≠d) (cd:c≠d):a1V C (a9d C S L a b c d) L a b c d lay0:=by
 refine ⟨⟨?_,?_,?_,?_,?_⟩,ab,ac,ad,bc,bd,cd⟩ <;> unfold a9d <;> simp [aL,bL,cL,dL,ab.symm,ac.symm,ad.symm,bc.symm,bd.symm,cd.symm,lay0,a0B]
theorem a1P {zs:List Str} {z:Str}:units (zs ++ [z])=units zs ++ [(z,())]:=by unfold units;rw [zav];rfl
theorem take_snoc {α:Type} {l:List α} {i:Nat} {x:α} (h:l[i]?=some x):l.take (i + 1)=l.take i ++ [x]:=by rw [List.take_add_one,h];rfl
theorem a4e {l:List Str} {i:Nat} {z:Str} (u:l.Nodup) (h:l[i]?=some z):z∉l.take i:=fun hm=>by
 obtain ⟨j,hj⟩:=List.mem_iff_getElem?.mp hm
 have hji:j < i:=by have:=(List.getElem?_eq_some_iff.mp hj).1;rw [List.length_take] at this;omega
 rw [List.getElem?_take_of_lt hji] at hj
 have:=(List.getElem?_inj (List.getElem?_eq_some_iff.mp hj).1 u).mp (hj.trans h.symm)
 omega
theorem a68 {α:Type} {l:List (Str × α)} {i:Nat}:nms (l.take i)=(nms l).take i:=List.map_take
theorem b5e {α:Type} {l:List (Str × α)} {i:Nat} {q:Str × α} (h:l[i]?=some q):(nms l)[i]?=some q.1:=by unfold nms;rw [zbh,h];rfl
def part (w:Wo) (i j k n:Nat):Lay:=⟨units (w.rooms.take i),w.lines.take k,w.drains.take j,units (w.srcs.take n),false⟩
theorem a6p {w:Wo} {i j k n:Nat} (ok:a2f w) (h:n=0∨w.rooms.length≤i):Ok 0 (part w i j k n):=by
 have ok0:=ok.ok
 refine ⟨by show (units _).length≤24;unfold units;rw [zag,List.length_take];have:=ok.r;omega,by show (w.lines.take k).length≤40;rw [List.length_take];have:=ok.l;omega,by show (w.drains.take j).length≤12;rw [List.length_take];have:=ok.d;omega,
  by show (nms (units _)).Nodup;rw [a0j];exact ok.su.sublist (List.take_sublist _ _),fun q hq=>?_,fun q hq=>ok0.nl q (List.mem_of_mem_take hq),fun q hq=>ok0.nd q (List.mem_of_mem_take hq),fun q hq=>?_,by show (nms (w.lines.take k)).Nodup;rw [a68];exact ok.lu.sublist (List.take_sublist _ _),fun z hz=>?_⟩
 ·obtain ⟨z,hz,rfl⟩:=zan.mp hq
  exact ok.rn z (List.mem_of_mem_take hz)
 ·obtain ⟨z,hz,rfl⟩:=zan.mp hq
  exact ok.rn z (ok.s z (List.mem_of_mem_take hz))
 ·have hz:z∈nms (units (w.srcs.take n)):=hz
  show z∈nms (units (w.rooms.take i))
  rw [a0j] at hz ⊢
  rcases h with rfl | h
  ·simp at hz
  ·rw [List.take_of_length_le h]
   exact ok.s z (List.mem_of_mem_take hz)
theorem a1i {α:Type} {l:List (Str × α)}:(nms l).length=l.length:=zag ..
structure Ld (C:Addr) (S S':SS) (L a b c d M e:Addr) (w:Wo) (st:Lay) (ke:Cell):Prop where
 nw:∀ q,S q≠none→q≠L∧q≠a∧q≠b∧q≠c∧q≠d
 mw:MW S M e w.rooms w
 lay:a1V C S' L a b c d st
 at_M:S' M=some (.dic (mW w e w.rooms))
 at_e:S' e=some ke
 rest:∀ q,S q≠none→q≠e→S' q=S q
section
variable {C:Addr} {S S':SS} {L a b c d M e:Addr} {w:Wo} {st:Lay} {ke:Cell}
theorem Ld.set (h:Ld C S S' L a b c d M e w st ke) {q:Addr} {x:Cell} {st':Lay} (hq:q=L∨q=a∨q=b∨q=c∨q=d) (l:a1V C (S'.set q x) L a b c d st'):Ld C S (S'.set q x) L a b c d M e w st' ke:=by
 have ne:∀ {r:Addr},S r≠none→r≠q:=fun {r} hr=>by
  obtain ⟨h1,h2,h3,h4,h5⟩:=h.nw r hr
  rcases hq with rfl | rfl | rfl | rfl | rfl <;> assumption
 have th:∀ {r:Addr} {y:Cell},S r=some y→S r≠none:=fun h z=>by rw [h] at z;cases z
 exact ⟨h.nw,h.mw,l,by rw [zaa (ne (th h.mw.M))];exact h.at_M,by rw [zaa (ne (th h.mw.e))];exact h.at_e,fun r hr h1=>by rw [zaa (ne hr)];exact h.rest r hr h1⟩
theorem Ld.sete (h:Ld C S S' L a b c d M e w st ke) (k:Cell):Ld C S (S'.set e k) L a b c d M e w st k:=by
 obtain ⟨h1,h2,h3,h4,h5⟩:=h.nw e (by rw [h.mw.e];exact fun z=>nomatch z)
 exact ⟨h.nw,h.mw,h.lay.off h1 h2 h3 h4 h5,by rw [zaa h.mw.Me];exact h.at_M,zab,fun r hr n1=>by rw [zaa n1];exact h.rest r hr n1⟩
theorem Ld.grows (h:Ld C S S' L a b c d M e w st (.dic (a0B fL w.lines))):Grows S S':=fun q hq=>by
 by_cases h1:q=e
 ·rw [h1,h.at_e,h.mw.e]
 ·exact h.rest q hq h1
end
variable {K:zbj}
theorem b1S {G:Gm} {S:SS} {zs:List D} {Q:Bool→Prop} (k:Q true):∃ t b,tyD S (.lst zs)=some t∧a4S G S (.lst zs)∧PySem.W.kitOne G.K t ((Cn.ty "list").val G)=some b∧Q b:=a3s rfl trivial rfl k
theorem LV.vw {S:SS} {x:D} {zs:List Str} (h:LV S x zs):vw S x=.lst (zs.map D.str):=by
 rcases h with rfl | ⟨q,rfl,hq⟩
 ·rfl
 ·exact b0R hq
theorem LV.set {S:SS} {x:D} {zs:List Str} {p:Addr} {c:Cell} (h:LV S x zs) (fp:S p=none):LV (S.set p c) x zs:=h.imp id fun ⟨q,e,hq⟩=>⟨q,e,by rw [zaa (zad hq fp)];exact hq⟩
theorem b4U {G:Gm} {S:SS} {x:D} {zs:List Str} {Q:Bool→Prop} (h:LV S x zs) (k:Q true):∃ t b,tyD S x=some t∧a4S G S x∧PySem.W.kitOne G.K t ((Cn.ty "list").val G)=some b∧Q b:=by
 rcases h with rfl | ⟨q,rfl,hq⟩
 ·exact b1S k
 ·refine a3s (t:=.type "list") (b:=true) ?_ ?_ rfl k
  ·show (match S q with | some (.lst _)=>some (Value.type "list") | some (.dic _)=>some (.type "dict") | some (.loc _)=>some (.type "dict") | some (.ins C _)=>some (.ref C) | none=>none)=_
   rw [hq]
  ·intro C fs h
   rw [hq] at h
   cases h
theorem b40 {S:SS} {KK:DK} {x:D} {zs:List Str} (h:LV S x zs) (k:KK (.int (zs.length:Nat)) S):Bn.len.den [x] S KK:=by
 have k:KK (.int ((zs.map D.str).length:Nat)) S:=by rw [zag];exact k
 rcases h with rfl | ⟨q,rfl,hq⟩
 ·exact b41 k
 ·exact b2b hq k
theorem c3b (c:SaysX fa fn fx K):Meets ((tb K).sn N25) ((tb K).G K 25) 1 false a1u b25:=by
 refine Qt.put_in ?_
 simp (disch :=
 with_unfolding_all
 refine Qt.keep ?_
 rintro m hm ds S KK Y ⟨rfl,x,zs,rfl,hv,u,nm,few,hK⟩
 refine ⟨rfl,?_⟩
 show a0c _ b25 [some _,none,none] _ _ _
 unfold b25
 lia
 refine b4U hv ?_
 lia
 rw [if_neg (by decide)]
 lia
 refine b40 hv ?_
 lia
 rw [if_neg (by rw [zah];omega)]
 lia
 refine a3m fun p fp=>?_
 lia
 refine ⟨_,(hv.set fp).vw,?_⟩
 refine ⟨fun i δ' S'=>∃ y,S'=S.set p (.dic (a0B fU (units (zs.take i))))∧δ'=[some x,some (.obj p),y],⟨none,rfl,rfl⟩,fun _ _ _ h _=>(by obtain ⟨_,rfl,_⟩:=h;exact (hv.set fp).vw),?_,?_⟩
 ·rintro i d δ' S' hd ⟨y,rfl,rfl⟩
  rw [zbh,zam] at hd
  obtain ⟨z,hz,rfl⟩:=hd
  have nw:=a4e u hz
  have nw':z∉nms (units (zs.take i)):=by rw [a0j];exact nw
  refine a2G ?_
  lia
  refine a5J (T:=TOr a0M (TQA NmP)) rfl ?_
  lia
  refine Or.inl ⟨rfl,z,rfl,nm z (zaq hz),?_⟩
  lia
  rw [if_neg (by decide)]
  lia
  refine b1O zab rfl ?_
  rw [a1b]
  lia
  rw [if_neg (by rw [zah];exact nw')]
  lia
  refine a5F zab rfl (by rw [a0D,zai];unfold units;rw [zag,List.length_take];omega) ?_
  rw [zac,show (D.bl true)=fU () from rfl,a06 nw',← a1P,← take_snoc hz]
  lia
  exact ⟨_,rfl,rfl⟩
 ·rintro δ' S' ⟨y,rfl,rfl⟩
  refine a9x rfl zab ?_
  rw [zaf fp]
  lia
  exact hK
 ) only [↓Qt.put_off]
theorem a5l (c:SaysX fa fn fx K):b7u K (lc K):=b1Q (a0b c) (c.fact 23 rfl)
theorem a8B (c:SaysX fa fn fx K) {m0:Option (Addr × Obj)} {i:Nat} {S:SS} {L a b c' d:Addr} {st:Lay} {Q:Bool→Prop} (lay:a2e (lc K) S L a b c' d st) (k:Q true) :
  ∃ t b,tyD S (.obj L)=some t∧a4S ((tb K).G K i m0).toGm S (.obj L)∧PySem.W.kitOne ((tb K).G K i m0).toGm.K t ((Cn.own 7).val ((tb K).G K i m0).toGm)=some b∧Q b:=by
 refine a3s (t:=.ref (lc K)) (b:=true) ?_ ?_ (a5l c).me k
 ·show (match S L with | some (.lst _)=>some (Value.type "list") | some (.dic _)=>some (.type "dict") | some (.loc _)=>some (.type "dict") | some (.ins C _)=>some (.ref C) | none=>none)=_
  rw [lay.L]
  rfl
 ·intro C fs h
  rw [lay.L] at h
  cases h
  exact a5l c
theorem a2c {w:Wo} (ok:a2f w) {z:Str} (h:z∈a0r w):Nm z∧∃ q,w.lay.lines.lookup z=some q∧q.2.2≠0:=by
 obtain ⟨q,hq,rfl⟩:=zan.mp h
 obtain ⟨h1,h2⟩:=zay.mp hq
 refine ⟨(ok.ln q h1).1,q.2,a05 ok.lu h1,?_⟩
 have:=of_decide_eq_true h2
 omega
theorem b3p.nm {w:Wo} {shut rs:List Str} (ok:a2f w) (h:b3p w shut rs):(∀ z∈shut,Nm z)∧∀ z∈rs,Nm z:=⟨fun z hz=>(a2c ok (h.1 z hz)).1,fun z hz=>ok.rn z (h.2.2.2.1 z hz)⟩
theorem a6E.few {w:Wo} {shut rs:List Str} {R:List (Str × Nat)} (ok:a2f w) (sub:∀ z∈rs,z∈w.rooms) (h:a6E w shut rs R):R.length≤24:=by
 have e:(nms R).length=R.length:=zag ..
 rw [← e]
 exact Nat.le_trans (a2p h.u fun z hz=>(h.iff.mp hz).room ok sub) ok.r
variable {K:zbj}
theorem c2M (c:SaysX fa fn fx K):Meets ((tb K).sn N16) ((tb K).G K 16) 1 false a78 b16:=by
 refine Qt.put_in ?_
 simp (disch :=
 with_unfolding_all
 refine Qt.keep ?_
 rintro m hm ds S KK Y ⟨rfl,b,c0,rfl,hb,hc,hK⟩
 refine ⟨rfl,?_⟩
 show a0c _ b16 [some _,none] _ _ _
 unfold b16
 lia
 refine a0a (T:=a0v) rfl ?_
 lia
 refine ⟨rfl,b,4,c0,rfl,by decide,by decide,hb,hc,fun v c1 v0 v1 hc1=>?_⟩
 lia
 by_cases h0:v=0
 ·rw [if_pos (zbg h0)]
  lia
  exact hK 24 40 c1 (by decide) (by decide) (by decide) (by decide) hc1
 rw [if_neg (by rw [zah];exact h0)]
 lia
 by_cases h1:v=1
 ·rw [if_pos (zbg h1)]
  lia
  refine a0a (T:=a0v) rfl ?_
  lia
  refine ⟨rfl,b,24,c1,rfl,by decide,by decide,zab,hc1,fun u c2 u0 u1 hc2=>?_⟩
  rw [zac]
  lia
  refine a0a (T:=a0v) rfl ?_
  lia
  refine ⟨rfl,b,41,c2,rfl,by decide,by decide,zab,hc2,fun t c3 t0 t1 hc3=>?_⟩
  rw [zac]
  lia
  exact hK _ _ c3 (by omega) (by omega) (by omega) (by omega) hc3
 rw [if_neg (by rw [zah];exact h1)]
 lia
 refine a0a (T:=a0v) rfl ?_
 lia
 refine ⟨rfl,b,6,c1,rfl,by decide,by decide,zab,hc1,fun u c2 u0 u1 hc2=>?_⟩
 rw [zac]
 lia
 refine a0a (T:=a0v) rfl ?_
 lia
 refine ⟨rfl,b,14,c2,rfl,by decide,by decide,zab,hc2,fun t c3 t0 t1 hc3=>?_⟩
 rw [zac]
 lia
 exact hK _ _ c3 (by omega) (by omega) (by omega) (by omega) hc3
 ) only [↓Qt.put_off]
theorem a8Z {S:SS} {KK:DK} {p:Addr} {z:Str} {zs:List Str} (h:S p=some (.lst (zs.map D.str))) (hz:fine z=true) (hs:∀ w∈zs,fine w=true) (k:KK (.bl (!decide (z∈zs))) S):a0G .NotIn (.str z) (.obj p) S KK:=by
 show a5b true (.str z) (.obj p) S KK
 unfold a5b
 rw [b0R h]
 exact ⟨hz,a2x _ zs hs,by rw [Bool.true_xor,show vw S (.str z)=.str z from rfl,a2l];exact k⟩
def c05:D→D
 | .str z=>.str (z ++ "x")
 | d=>d
def c03:D→D
 | .str z=>.str ("y" ++ z)
 | d=>d
def a3H:List Str:=("abcdefghijklmnopqrstuvwxyz" : Str).cps.toList.map (fun c=>(⟨#[c]⟩:Str) ++ "x") ++ ("abcdefghijklmnopqrstuvwxyz" : Str).cps.toList.map (fun c=>("y" : Str) ++ ⟨#[c]⟩)
def b2Q:List Str:=a3H.eraseDups
theorem b2R:b2Q.Nodup∧(∀ z∈a3H,Nm z)∧b2Q.length=51∧∀ z∈b2Q,z∈a3H:=by
 refine ⟨by decide +kernel,by decide +kernel,by decide +kernel,by decide +kernel⟩
theorem c2Z (c:SaysX fa fn fx K):Meets ((tb K).sn N29) ((tb K).G K 29) 2 false a3i b29:=by
 refine Qt.put_in ?_
 simp (disch :=
 with_unfolding_all
 refine Qt.keep ?_
 rintro m hm ds S KK Y ⟨rfl,b,c0,n,rfl,n0,n1,hb,hc,hK⟩
 refine ⟨rfl,?_⟩
 show a0c _ b29 [some _,some _,none,none,none,none,none,none] _ _ _
 unfold b29
 lia
 have bd:=bnd (j:=n) (by omega) (by omega)
 refine ⟨bd.1,bd.2,?_⟩
 refine b01 (P:=nmD) hb hc (by rw [a08,zai];omega) (fun _=>trivial) (fun p i acc d S0 c3 K1 hd hb0 hc3 hk=>?_) fun ys c4 hlen hP hc4=>?_
 ·refine a2G ?_
  lia
  refine a0a (T:=a77) rfl ?_
  lia
  exact ⟨rfl,b,c3,rfl,hb0,hc3,fun z c5 hz hc5=>hk _ c5 ⟨z,rfl,hz⟩ hc5⟩
 obtain ⟨zs,rfl,hzs⟩:=b06 ys hP
 rw [a08,zag] at hlen
 obtain ⟨r1,r2,r3,r4⟩:=b2R
 lia
 refine a3u c05 (fun _=>true) (by rw [zai];decide +kernel) (fun _ _ _=>trivial) (fun p i acc d K1 KN hd hp hk hn=>?_) ?_
 ·unfold a0x at hd
  rw [zbh,zam] at hd
  obtain ⟨cc,_,rfl⟩:=hd
  refine a2G (a9S ?_)
  rw [if_pos rfl]
  show den _ _ [some _,some _,some _,some _,none,none,none,some (.str ⟨#[cc]⟩)] _ _ _
  lia
  refine a7b (by rw [zai];show 1 + 1≤16777216;decide) ?_
  exact hk rfl
 refine a2w (by rw [zag,zai,zag,zbc.mpr (fun _ _=>rfl)];show _ + 26≤_;omega) ?_
 lia
 refine a3u c03 (fun _=>true) (by rw [zai];decide +kernel) (fun _ _ _=>trivial) (fun p i acc d K1 KN hd hp hk hn=>?_) ?_
 ·unfold a0x at hd
  rw [zbh,zam] at hd
  obtain ⟨cc,_,rfl⟩:=hd
  refine a2G (a9S ?_)
  rw [if_pos rfl]
  show den _ _ [some _,some _,some _,some _,none,none,none,some (.str ⟨#[cc]⟩)] _ _ _
  lia
  refine a7b (by rw [zai];show 1 + 1≤16777216;decide) ?_
  exact hk rfl
 refine a2w (by rw [zaw,zag,zai,zag,zbc.mpr (fun _ _=>rfl),zag];show _ + 26 + 26≤_;omega) ?_
 rw [zbc.mpr (fun _ _=>rfl)]
 rw [show zs.map D.str ++ (a0x ("abcdefghijklmnopqrstuvwxyz" : Str)).map c05 ++ (a0x ("abcdefghijklmnopqrstuvwxyz" : Str)).map c03=(zs ++ a3H).map D.str by
  unfold a0x a3H
  rw [zav,zav,zat,zat,zat,zat,List.append_assoc]
  rfl]
 lia
 intro p fp
 have bp:b≠p:=zad zab fp
 have all:∀ z∈zs ++ a3H,Nm z:=fun z hz=>(zap.mp hz).elim (hzs z) (r2 z)
 lia
 refine ⟨_,rfl,?_⟩
 refine ⟨fun i δ' S'=>∃ ws x5,ws.Nodup∧(∀ y∈ws,y∈zs ++ a3H)∧(ws.length:Int)≤n∧((ws.length:Int) < n→∀ y∈(zs ++ a3H).take i,y∈ws)∧S'=(S.set b c4).set p (.lst (ws.map D.str))∧δ'=[some (.obj b),some (.int n),some (.str "abcdefghijklmnopqrstuvwxyz"),some (.lst ((zs ++ a3H).map D.str)),some (.obj p),x5,none,none],⟨[],none,List.nodup_nil,(fun _ h=>nomatch h),n0,fun _ y hy=>by simp at hy,rfl,rfl⟩,fun _ _ _ _ _=>rfl,?_,?_⟩
 ·rintro i d0 δ' S' hd ⟨ws,x5,wu,wi,wl,wa,rfl,rfl⟩
  rw [zbh,zam] at hd
  obtain ⟨z,hz,rfl⟩:=hd
  have mz:=zaq hz
  have tk:(zs ++ a3H).take (i + 1)=(zs ++ a3H).take i ++ [z]:=take_snoc hz
  refine a2G ?_
  lia
  refine a8Z zab (all z mz).fine (fun w hw=>(all w (wi w hw)).fine) ?_
  lia
  by_cases h1:z∈ws
  ·rw [if_neg (by rw [zbg h1];decide)]
   rw [if_neg (by decide)]
   lia
   refine ⟨ws,_,wu,wi,wl,fun lt y hy=>?_,rfl,rfl⟩
   rw [tk] at hy
   rcases zap.mp hy with hy | hy
   ·exact wa lt y hy
   ·rw [zaj.mp hy];exact h1
  rw [if_pos (by rw [zbf h1];rfl)]
  lia
  refine b2b zab ?_
  lia
  by_cases h2:(ws.length:Int) < n
  ·rw [if_pos (by rw [zah,zag];exact h2)]
   lia
   refine ⟨b5y zab,?_⟩
   lia
   refine b3J zab (by rw [zag,zai];omega) ?_
   lia
   refine ⟨ws ++ [z],_,?_,fun y hy=>?_,by rw [zaw];show ((ws.length + 1:Nat):Int)≤n;omega,fun _ y hy=>?_,by rw [zac,zav];rfl,rfl⟩
   ·refine List.nodup_append.mpr ⟨wu,by simp,fun a ha b hb e=>h1 ?_⟩
    rw [← zaj.mp hb,← e];exact ha
   ·rcases zap.mp hy with hy | hy
    ·exact wi y hy
    ·rw [zaj.mp hy];exact mz
   ·rw [tk] at hy
    rcases zap.mp hy with hy | hy
    ·exact zar _ (wa h2 y hy)
    ·exact zas _ hy
  ·rw [if_neg (by rw [zah,zag];exact h2)]
   lia
   exact ⟨ws,_,wu,wi,wl,fun lt=>absurd lt h2,rfl,rfl⟩
 ·rintro δ' S' ⟨ws,x5,wu,wi,wl,wa,rfl,rfl⟩
  rw [zag,List.take_length] at wa
  refine b1b rfl zab ?_
  rw [zaf (by rw [zaa bp.symm] at fp ⊢;exact fp)]
  lia
  refine hK ws c4 ?_ (fun z hz=>all z (wi z hz)) wu hc4
  by_cases h2:(ws.length:Int) < n
  ·have:=a2p r1 fun z hz=>wa h2 z (zas _ (r4 z hz))
   omega
  ·omega
 ) only [↓Qt.put_off]
theorem c2O (c:SaysX fa fn fx K):Meets ((tb K).sn N18) ((tb K).G K 18) 3 false a6G b18:=by
 refine Qt.put_in ?_
 simp (disch :=
 with_unfolding_all
 refine Qt.keep ?_
 rintro m hm ds S KK Y ⟨rfl,b,c0,n,zs,rfl,zl,n0,n1,nm,hb,hc,hK⟩
 refine ⟨rfl,?_⟩
 show a0c _ b18 [some _,some _,some _,none,none,none] _ _ _
 unfold b18
 lia
 intro p fp
 have bp:b≠p:=zad hb fp
 lia
 refine b3L (fun z hz=>(nm z hz).fine) ?_
 lia
 have kk:∃ k:Int,n * (if (!zs.isEmpty)=true then 1 else 0)=k∧0≤k∧k≤n∧(zs≠[]→k=n)∧(zs=[]→k=0):=by
  cases zs with
  | nil=>exact ⟨0,by simp,Int.le_refl _,n0,fun h=>absurd rfl h,fun _=>rfl⟩
  | cons a l=>exact ⟨n,by simp,n0,Int.le_refl _,fun _=>rfl,fun h=>nomatch h⟩
 obtain ⟨k,ek,k0,k1,kz,ky⟩:=kk
 have bd:=bnd (j:=k) (by omega) (by omega)
 refine a4F (.inl (.inl ⟨by omega,by omega⟩)) ?_
 rw [ek]
 refine ⟨_,rfl,bd.1,bd.2,?_⟩
 have ln:(a6s 0 k.toNat).length=k.toNat:=by rw [a08]
 refine ⟨fun i δ' S'=>∃ ws cb x4 x5,a0w cb∧ws.Nodup∧(∀ y∈ws,y∈zs)∧ws.length≤i∧(0 < i→ws≠[])∧S'=(S.set b cb).set p (.lst (ws.map D.str))∧δ'=[some (.obj b),some (.lst (zs.map D.str)),some (.int n),some (.obj p),x4,x5],⟨[],c0,none,none,hc,List.nodup_nil,(fun _ h=>nomatch h),Nat.le_refl _,fun h=>absurd h (Nat.lt_irrefl _),by rw [SS.set_id hb];rfl,rfl⟩,fun _ _ _ _ _=>trivial,?_,?_⟩
 ·rintro i d0 δ' S' hd ⟨ws,cb,x4,x5,hcb,wu,wi,wl,wn,rfl,rfl⟩
  have il:=(List.getElem?_eq_some_iff.mp hd).1
  rw [ln] at il
  have zn:zs≠[]:=fun h=>by rw [ky h] at il;simp at il
  have zp:=List.length_pos_iff.mpr zn
  have at_b:∀ {cb:Cell},((S.set b cb).set p (.lst (ws.map D.str))) b=some cb:=fun {cb}=>by rw [zaa bp,zab]
  refine a2G ?_
  lia
  refine a0a (T:=a0v) rfl ?_
  lia
  refine ⟨rfl,b,_,cb,rfl,by rw [zag];omega,lg (by rw [zag];omega) (by rw [zag];omega),at_b,hcb,fun u c2 u0 u1 hc2=>?_⟩
  rw [show ((S.set b cb).set p (.lst (ws.map D.str))).set b c2=(S.set b c2).set p (.lst (ws.map D.str)) by rw [zae bp.symm,zac]]
  obtain ⟨z,ez,mz,_⟩:=b2K nm u0 u1
  refine a3V ez ?_
  lia
  refine a8Z zab (nm z mz).fine (fun w hw=>(nm w (wi w hw)).fine) ?_
  lia
  by_cases h1:z∈ws
  ·rw [if_neg (by rw [zbg h1];decide)]
   lia
   exact ⟨ws,c2,_,_,hc2,wu,wi,by omega,fun _=>List.ne_nil_of_mem h1,rfl,rfl⟩
  ·rw [if_pos (by rw [zbf h1];rfl)]
   lia
   refine ⟨b5y zab,?_⟩
   lia
   have nb:=a2p wu wi
   refine b3J zab (by rw [zag,zai];omega) ?_
   lia
   refine ⟨ws ++ [z],c2,_,_,hc2,?_,fun y hy=>?_,by rw [zaw];show ws.length + 1≤_;omega,fun _ e=>by simp at e,by rw [zac,zav];rfl,rfl⟩
   ·refine List.nodup_append.mpr ⟨wu,by simp,fun a ha b hb e=>h1 ?_⟩
    rw [← zaj.mp hb,← e];exact ha
   ·rcases zap.mp hy with hy | hy
    ·exact wi y hy
    ·rw [zaj.mp hy];exact mz
 ·rintro δ' S' ⟨ws,cb,x4,x5,hcb,wu,wi,wl,wn,rfl,rfl⟩
  rw [ln] at wl wn
  lia
  exact hK ws cb p fp wi wu (by omega) (fun h1 h2=>wn (by rw [kz h1];omega)) hcb
 ) only [↓Qt.put_off]
theorem c2Q (c:SaysX fa fn fx K):Meets ((tb K).sn N20) ((tb K).G K 20) 2 false a74 b20:=by
 refine Qt.put_in ?_
 simp (disch :=
 with_unfolding_all
 refine Qt.keep ?_
 rintro m hm ds S KK Y ⟨rfl,b,c0,co,rfl,hb,hc,hK⟩
 refine ⟨rfl,?_⟩
 show a0c _ b20 [some _,some _,none] _ _ _
 unfold b20
 lia
 refine a0a (T:=a0v) rfl ?_
 lia
 refine ⟨rfl,b,6,c0,rfl,by decide,by decide,hb,hc,fun v c1 h0 h1 hc1=>?_⟩
 lia
 by_cases hv:v=0
 ·rw [if_pos (zbg hv)]
  lia
  exact hK 0 c1 (by decide) (by decide) hc1
 rw [if_neg (by rw [zah];exact hv)]
 lia
 by_cases a1:co=0
 ·rw [if_pos (zbg a1)]
  try rw [if_pos rfl]
  lia
  exact hK 1 c1 (by decide) (by decide) hc1
 rw [if_neg (by rw [zah];exact a1)]
 lia
 by_cases a2:v=1
 ·rw [if_pos (zbg a2)]
  try rw [if_pos rfl]
  lia
  exact hK 1 c1 (by decide) (by decide) hc1
 rw [if_neg (by rw [zah];exact a2)]
 try rw [if_neg zbe]
 lia
 by_cases a3:co=1
 ·rw [if_pos (zbg a3)]
  try rw [if_pos rfl]
  lia
  refine a0a (T:=a0v) rfl ?_
  lia
  refine ⟨rfl,b,3,c1,rfl,by decide,by decide,zab,hc1,fun u c2 u0 u1 hc2=>?_⟩
  rw [zac]
  lia
  exact hK _ c2 (by omega) (by omega) hc2
 rw [if_neg (by rw [zah];exact a3)]
 lia
 by_cases a4:v=2
 ·rw [if_pos (zbg a4)]
  try rw [if_pos rfl]
  lia
  refine a0a (T:=a0v) rfl ?_
  lia
  refine ⟨rfl,b,3,c1,rfl,by decide,by decide,zab,hc1,fun u c2 u0 u1 hc2=>?_⟩
  rw [zac]
  lia
  exact hK _ c2 (by omega) (by omega) hc2
 rw [if_neg (by rw [zah];exact a4)]
 try rw [if_neg zbe]
 lia
 refine a0a (T:=a0v) rfl ?_
 lia
 refine ⟨rfl,b,99,c1,rfl,by decide,by decide,zab,hc1,fun u c2 u0 u1 hc2=>?_⟩
 rw [zac]
 lia
 exact hK _ c2 (by omega) (by omega) hc2
 ) only [↓Qt.put_off]
theorem c2P (c:SaysX fa fn fx K):Meets ((tb K).sn N19) ((tb K).G K 19) 4 false a75 b19:=by
 refine Qt.put_in ?_
 simp (disch :=
 with_unfolding_all
 refine Qt.keep ?_
 rintro m hm ds S KK Y ⟨rfl,b,c0,sh,n,k,rfl,n1,n2,k0,k1,hb,hc,hK⟩
 have md:∀ x:Int,0≤x % n∧x % n < n:=fun x=>⟨Int.emod_nonneg _ (by omega),Int.emod_lt_of_pos _ (by omega)⟩
 refine ⟨rfl,?_⟩
 show a0c _ b19 [some _,some _,some _,some _,none,none] _ _ _
 unfold b19
 lia
 refine b0l ⟨by decide,by decide⟩ ?_
 have hh:1≤(n + 1) / 2∧(n + 1) / 2≤n:=by omega
 generalize (n + 1) / 2=h at hh ⊢
 lia
 by_cases h0:sh=0
 ·rw [if_pos (zbg h0)]
  lia
  refine a0a (T:=a0v) rfl ?_
  lia
  refine ⟨rfl,b,n,c0,rfl,by omega,lg (by omega) (by omega),hb,hc,fun u c1 u0 u1 hc1=>?_⟩
  lia
  refine a0a (T:=a0v) rfl ?_
  lia
  refine ⟨rfl,b,n,c1,rfl,by omega,lg (by omega) (by omega),zab,hc1,fun v c2 v0 v1 hc2=>?_⟩
  rw [zac]
  lia
  exact hK _ _ c2 u0 u1 v0 v1 hc2
 rw [if_neg (by rw [zah];exact h0)]
 lia
 by_cases h1:sh=1
 ·rw [if_pos (zbg h1)]
  lia
  refine a1Z (by omega) ?_
  lia
  refine a0a (T:=a0v) rfl ?_
  lia
  refine ⟨rfl,b,2,c0,rfl,by decide,by decide,hb,hc,fun u c1 u0 u1 hc1=>?_⟩
  lia
  refine a0a (T:=a0v) rfl ?_
  lia
  refine ⟨rfl,b,n,c1,rfl,by omega,lg (by omega) (by omega),zab,hc1,fun v c2 v0 v1 hc2=>?_⟩
  rw [zac]
  lia
  refine a4F (.inl (.inl ⟨by omega,by omega⟩)) ?_
  lia
  refine a1Z (by omega) ?_
  lia
  exact hK _ _ c2 (md _).1 (md _).2 (md _).1 (md _).2 hc2
 rw [if_neg (by rw [zah];exact h1)]
 lia
 by_cases h2:sh=2
 ·rw [if_pos (zbg h2)]
  lia
  refine a1Z (by omega) ?_
  lia
  refine a0a (T:=a0v) rfl ?_
  lia
  refine a1Z (by omega) ?_
  have m1:=md k
  lia
  refine ⟨rfl,b,1 + k % n,c0,rfl,by omega,lg (by omega) (by omega),hb,hc,fun u c1 u0 u1 hc1=>?_⟩
  lia
  exact hK _ _ c1 m1.1 m1.2 u0 (by omega) hc1
 rw [if_neg (by rw [zah];exact h2)]
 lia
 refine a0a (T:=a0v) rfl ?_
 lia
 refine ⟨rfl,b,5,c0,rfl,by decide,by decide,hb,hc,fun v c1 v0 v1 hc1=>?_⟩
 lia
 by_cases h3:v=0
 ·rw [if_pos (zbg h3)]
  lia
  refine a0a (T:=a0v) rfl ?_
  lia
  refine ⟨rfl,b,h,c1,rfl,by omega,lg (by omega) (by omega),zab,hc1,fun u c2 u0 u1 hc2=>?_⟩
  rw [zac]
  lia
  refine a0a (T:=a0v) rfl ?_
  lia
  refine ⟨rfl,b,n,c2,rfl,by omega,lg (by omega) (by omega),zab,hc2,fun t c3 t0 t1 hc3=>?_⟩
  rw [zac]
  lia
  refine a1Z (by omega) ?_
  lia
  exact hK _ _ c3 u0 (by omega) (md _).1 (md _).2 hc3
 rw [if_neg (by rw [zah];exact h3)]
 lia
 refine a0a (T:=a0v) rfl ?_
 lia
 refine ⟨rfl,b,2,c1,rfl,by decide,by decide,zab,hc1,fun u c2 u0 u1 hc2=>?_⟩
 rw [zac]
 lia
 refine a4F (.inl (.inl ⟨by omega,by omega⟩)) ?_
 lia
 refine a0a (T:=a0v) rfl ?_
 lia
 refine ⟨rfl,b,h,c2,rfl,by omega,lg (by omega) (by omega),zab,hc2,fun s c3 s0 s1 hc3=>?_⟩
 rw [zac]
 lia
 refine a1Z (by omega) ?_
 lia
 refine a0a (T:=a0v) rfl ?_
 lia
 refine ⟨rfl,b,h,c3,rfl,by omega,lg (by omega) (by omega),zab,hc3,fun t c4 t0 t1 hc4=>?_⟩
 rw [zac]
 lia
 refine a1Z (by omega) ?_
 lia
 exact hK _ _ c4 (md _).1 (md _).2 (md _).1 (md _).2 hc4
 ) only [↓Qt.put_off]
variable {K:zbj}
theorem a9u {zs:List Str} (u:zs.Nodup):a0i (a0i zs)=a0i zs:=a9o (a7m u) u fun z=>a5G
theorem c25 (c:SaysX fa fn fx K):Meets ((tb K).sn N34) ((tb K).G K 34) 1 false (a4p K) b34:=by
 refine Qt.put_in ?_
 simp (disch :=
 with_unfolding_all
 refine Qt.keep ?_
 rintro m hm ds S KK Y ⟨rfl,M,e,w,rfl,mw,ok,wd,hK⟩
 refine ⟨rfl,?_⟩
 show a0c _ b34 [some _,none,none,none,none,none,none] _ _ _
 unfold b34
 have lr:=ok.r
 have ll:=ok.l
 have ld:=ok.d
 lia
 refine c07 (T:=a9O K) rfl rfl ?_
 lia
 intro L frL
 refine ⟨rfl,L,rfl,zab,fun a b c' d aL bL cL dL ab ac ad bc bd cd fa fb fc fd=>⟨rfl,?_⟩⟩
 rw [zaa aL] at fa
 rw [zaa bL] at fb
 rw [zaa cL] at fc
 rw [zaa dL] at fd
 have l0:=a2e.put (C:=lc K) (S:=S.set L (.ins (lc K) [])) aL bL cL dL ab ac ad bc bd cd
 have nw:∀ q,S q≠none→q≠L∧q≠a∧q≠b∧q≠c'∧q≠d:=fun q h=>⟨fun e=>h (e ▸ frL),fun e=>h (e ▸ fa),fun e=>h (e ▸ fb),fun e=>h (e ▸ fc),fun e=>h (e ▸ fd)⟩
 have g0:Grows S (a9d (lc K) (S.set L (.ins (lc K) [])) L a b c' d):=fun q hq=>by
  obtain ⟨h1,h2,h3,h4,h5⟩:=nw q hq
  unfold a9d
  simp [h1,h2,h3,h4,h5,zaa h1]
 have old:∀ {S1:SS} {q:Addr} {x:Cell},Grows S S1→S q=some x→S1 q=some x:=fun {S1 q x} g h=>by rw [g q (by rw [h];exact fun z=>nomatch z)];exact h
 have d0:Ld (lc K) S (a9d (lc K) (S.set L (.ins (lc K) [])) L a b c' d) L a b c' d M e w (part w 0 0 0 0) (.dic (a0B fL w.lines)):=⟨nw,mw,l0,old g0 mw.M,old g0 mw.e,fun q h _=>g0 q h⟩
 clear l0 g0
 show a0c ((tb K).G K 34 none) _ _ (a9d (lc K) (S.set L (.ins (lc K) [])) L a b c' d) _ _
 generalize a9d (lc K) (S.set L (.ins (lc K) [])) L a b c' d=S0 at d0 ⊢
 lia
 refine a2F d0.at_M rfl a6B ?_
 refine ⟨_,rfl,?_⟩
 refine ⟨fun i δ' S'=>∃ x,Ld (lc K) S S' L a b c' d M e w (part w i 0 0 0) (.dic (a0B fL w.lines))∧δ'=[some (.obj M),some (.obj L),x,none,none,none,none],⟨none,d0,rfl⟩,fun _ _ _ _ _=>rfl,?_,?_⟩
 ·rintro i d0 δ' S' hd ⟨x,d1,rfl⟩
  rw [zbh,zam] at hd
  obtain ⟨z,hz,rfl⟩:=hd
  have hi:=(List.getElem?_eq_some_iff.mp hz).1
  refine a2G ?_
  lia
  refine a5c (T:=a4l K) rfl ?_
  lia
  refine a5x d1.lay.s.L rfl ?_
  lia
  refine ⟨rfl,L,a,b,c',d,_,0,z,rfl,ok.rn z (zaq hz),d1.lay.s,a6p ok (.inl rfl),?_⟩
  have du:due (part w i 0 0 0) (.room z)=none:=by
   have h1:z∉nms (part w i 0 0 0).rooms:=by show z∉nms (units _);rw [a0j];exact a4e ok.ru hz
   have h2:¬ (part w i 0 0 0).rooms.length=24:=by show ¬ (units _).length=24;unfold units;rw [zag,List.length_take];omega
   simp only [due,if_neg h1,if_neg h2]
  rw [du]
  have l2:=d1.set (.inr (.inl rfl)) (d1.lay.rooms (units (w.rooms.take i) ++ [(z,())]))
  show Ends _ none _ _ _
  unfold Ends
  dsimp only
  lia
  refine ⟨_,?_,rfl⟩
  have e1:part w (i + 1) 0 0 0={ part w i 0 0 0 with rooms:=units (w.rooms.take i) ++ [(z,())] }:=by
   unfold part
   rw [take_snoc hz,a1P]
  rw [e1]
  exact l2
 rintro δ' S' ⟨x,d1,rfl⟩
 rw [zag] at d1
 clear d0
 have d3:=d1
 clear d1
 lia
 refine b1c d3.at_e ?_
 lia
 have d2:=d3.sete (.loc (a0B fL w.lines))
 refine a2F d2.at_M rfl a0F ?_
 refine ⟨e,_,rfl,zab,?_⟩
 refine ⟨fun i δ' S'=>∃ y z1 z2 z3,Ld (lc K) S S' L a b c' d M e w (part w w.rooms.length 0 i 0) (.loc (a0B fL w.lines))∧δ'=[some (.obj M),some (.obj L),x,y,z1,z2,z3],⟨_,_,_,_,d2,rfl⟩,fun _ _ _ _ _=>trivial,?_,?_⟩
 ·rintro i d0 δ' S' hd ⟨y,z1,z2,z3,d1,rfl⟩
  obtain ⟨q,rfl,hq⟩:=a8J hd
  have hi:=(List.getElem?_eq_some_iff.mp hq).1
  have mq:=zaq hq
  obtain ⟨n1,r1,r2,ne,k0,k1⟩:=ok.ln q mq
  refine a2G ?_
  lia
  refine a4Q rfl ?_
  lia
  refine a2F d1.at_M rfl a0F ?_
  lia
  refine b80 d1.at_e rfl (by rw [a0O,a05 ok.lu mq];rfl) ?_
  refine ⟨_,rfl,rfl,?_⟩
  show a0c _ _ [some (.obj M),some (.obj L),x,some (.str q.1),some (.str q.2.1),some (.str q.2.2.1),some (.int q.2.2.2)] _ _ _
  lia
  refine a5c (T:=a2W K) rfl ?_
  lia
  refine a5x d1.lay.s.L rfl ?_
  lia
  refine ⟨rfl,L,a,b,c',d,_,0,q.1,q.2.1,q.2.2.1,q.2.2.2,rfl,⟨n1,ok.rn _ r1,ok.rn _ r2,ne,k0,k1⟩,d1.lay.s,a6p ok (.inl rfl),?_⟩
  have du:due (part w w.rooms.length 0 i 0) (.line q.1 q.2.1 q.2.2.1 q.2.2.2)=none:=by
   have h1:¬ (q.1∈nms (part w w.rooms.length 0 i 0).lines∨q.1∈nms (part w w.rooms.length 0 i 0).drains):=by
    rintro (h | h)
    ·have h:q.1∈nms (w.lines.take i):=h
     rw [a68] at h
     exact a4e ok.lu (b5e hq) h
    ·have h:q.1∈nms (w.drains.take 0):=h
     simp [nms] at h
   have rm:∀ {z:Str},z∈w.rooms→z∈nms (part w w.rooms.length 0 i 0).rooms:=fun {z} hz=>by show _∈nms (units _);rw [a0j,List.take_length];exact hz
   have h3:¬ (part w w.rooms.length 0 i 0).lines.length=40:=by show ¬ (w.lines.take i).length=40;rw [List.length_take];omega
   simp only [due,a0A,if_neg h1,if_pos (rm r1),if_pos (rm r2),if_neg h3,Option.none_or]
  rw [du]
  have l2:=d1.set (.inr (.inr (.inl rfl))) (d1.lay.lines (w.lines.take i ++ [q]))
  show Ends _ none _ _ _
  unfold Ends
  dsimp only
  lia
  refine ⟨_,_,_,_,?_,rfl⟩
  have e1:part w w.rooms.length 0 (i + 1) 0={ part w w.rooms.length 0 i 0 with lines:=w.lines.take i ++ [q] }:=by
   unfold part
   rw [take_snoc hq]
  rw [e1]
  exact l2
 rintro δ' S' ⟨y,z1,z2,z3,d1,rfl⟩
 have el:((a0B fL w.lines).map fun kv=>keyV kv.1).length=w.lines.length:=by rw [zag,a0D]
 rw [el] at d1
 dsimp only [SE.unlock]
 clear d2 d3
 have d3:=d1.sete (.dic (a0B fL w.lines))
 clear d1
 generalize S'.set e (.dic (a0B fL w.lines))=S2 at d3 ⊢
 lia
 refine a2F d3.at_M rfl a5N ?_
 refine ⟨_,rfl,?_⟩
 refine ⟨fun i δ' S'=>∃ x,Ld (lc K) S S' L a b c' d M e w (part w w.rooms.length 0 w.lines.length i) (.dic (a0B fL w.lines))∧δ'=[some (.obj M),some (.obj L),x,y,z1,z2,z3],⟨_,d3,rfl⟩,fun _ _ _ _ _=>rfl,?_,?_⟩
 ·rintro i d0 δ' S' hd ⟨x,d1,rfl⟩
  rw [zbh,zam] at hd
  obtain ⟨z,hz,rfl⟩:=hd
  have hi:=(List.getElem?_eq_some_iff.mp hz).1
  have mz:=ok.s z (zaq hz)
  refine a2G ?_
  lia
  refine a5c (T:=a2H K) rfl ?_
  lia
  refine a5x d1.lay.s.L rfl ?_
  lia
  refine ⟨rfl,L,a,b,c',d,_,0,z,rfl,ok.rn z mz,d1.lay.s,a6p ok (.inr (Nat.le_refl _)),by decide,?_⟩
  have du:due (part w w.rooms.length 0 w.lines.length i) (.source z)=none:=by
   have h1:z∈nms (part w w.rooms.length 0 w.lines.length i).rooms:=by show _∈nms (units _);rw [a0j,List.take_length];exact mz
   have h2:z∉nms (part w w.rooms.length 0 w.lines.length i).pushed:=by show _∉nms (units _);rw [a0j];exact a4e ok.su hz
   simp only [due,if_pos h1,if_neg h2]
  rw [du]
  have l2:=d1.set (.inr (.inr (.inr (.inr rfl)))) (d1.lay.pushed (units (w.srcs.take i) ++ [(z,())]))
  show Ends _ none _ _ _
  unfold Ends
  dsimp only
  lia
  refine ⟨_,?_,rfl⟩
  have e1:part w w.rooms.length 0 w.lines.length (i + 1)={ part w w.rooms.length 0 w.lines.length i with pushed:=units (w.srcs.take i) ++ [(z,())] }:=by
   unfold part
   rw [take_snoc hz,a1P]
  rw [e1]
  exact l2
 rintro δ' S' ⟨x,d1,rfl⟩
 rw [zag] at d1
 have e1:part w w.rooms.length 0 w.lines.length w.srcs.length=w.lay:=by
  unfold part Wo.lay
  rw [List.take_length,List.take_length,List.take_length,wd]
  rfl
 rw [e1] at d1
 lia
 exact hK L a b c' d S' d1.grows frL fa fb fc fd d1.lay
 ) only [↓Qt.put_off]
theorem b9h {a b c d e f u:Int} (h0:0≤u) (h1:u < 6):∃ n,atI [D.int a,.int b,.int c,.int d,.int e,.int f] u=some (.int n)∧(n=a∨n=b∨n=c∨n=d∨n=e∨n=f):=by
 obtain rfl | rfl | rfl | rfl | rfl | rfl:u=0∨u=1∨u=2∨u=3∨u=4∨u=5:=by omega
 all_goals exact ⟨_,rfl,by simp⟩
theorem c24 (c:SaysX fa fn fx K):Meets ((tb K).sn N33) ((tb K).G K 33) 3 false a5V b33:=by
 refine Qt.put_in ?_
 simp (disch :=
 with_unfolding_all
 refine Qt.keep ?_
 rintro m hm ds S KK Y ⟨rfl,b,c0,n,k,rfl,n0,n1,k0,k1,hb,hc,hK⟩
 refine ⟨rfl,?_⟩
 show a0c _ b33 [some _,some _,some _,none,none,none,none,none,none,none,none,none,none,none] _ _ _
 unfold b33
 lia
 refine a0a (T:=a0v) rfl ?_
 lia
 refine ⟨rfl,b,4,c0,rfl,by decide,by decide,hb,hc,fun sh c1 s0 s1 hc1=>?_⟩
 lia
 refine a0a (T:=a0v) rfl ?_
 lia
 refine ⟨rfl,b,3,c1,rfl,by decide,by decide,zab,hc1,fun co c2 o0 o1 hc2=>?_⟩
 rw [zac]
 lia
 refine a0a (T:=a3i) rfl ?_
 lia
 refine ⟨rfl,b,c2,n,rfl,by omega,by omega,zab,hc2,fun rs c3 rl rn ru hc3=>?_⟩
 rw [zac]
 lia
 refine b0l ⟨by decide,by decide⟩ ?_
 have hh:1≤(n + 1) / 2∧(n + 1) / 2≤n∧(n + 1) / 2≤12:=by omega
 generalize (n + 1) / 2=h at hh ⊢
 obtain ⟨h,rfl⟩:=Int.eq_ofNat_of_zero_le (show 0≤h by omega)
 lia
 refine a0a (T:=a6G) rfl ?_
 lia
 rw [a2Z,← List.map_take]
 refine a0a (T:=a0v) rfl ?_
 lia
 refine ⟨rfl,b,6,c3,rfl,by decide,by decide,zab,hc3,fun v c4 v0 v1 hc4=>?_⟩
 rw [zac]
 obtain ⟨mny,em,hm⟩:=b9h (a:=1) (b:=1) (c:=2) (d:=3) (e:=0) (f:=12) v0 v1
 refine a3V em ?_
 lia
 refine ⟨rfl,b,c4,mny,rs.take h,rfl,by rw [List.length_take];omega,by omega,by omega,fun z hz=>rn z (List.mem_of_mem_take hz),zab,hc4,fun ss c5 q fq ssub su sl _ hc5=>?_⟩
 have bq:b≠q:=zad zab fq
 rw [zac,zae bq]
 have hq0:(S.set q (.lst (ss.map D.str))) q=some (.lst (ss.map D.str)):=zab
 generalize S.set q (.lst (ss.map D.str))=S0 at hq0 ⊢
 lia
 refine a3m fun p fp=>?_
 have bp:b≠p:=zad zab fp
 have fp0:S0 p=none:=by rw [zaa bp.symm] at fp;exact fp
 have at_b:∀ {cb x:Cell},((S0.set b cb).set p x) b=some cb:=fun {cb x}=>by rw [zaa bp,zab]
 have b0A:∀ {cb cb2 x:Cell},((S0.set b cb).set p x).set b cb2=(S0.set b cb2).set p x:=fun {cb cb2 x}=>by rw [zae bp.symm,zac]
 lia
 refine a0a (T:=a3i) rfl ?_
 lia
 refine ⟨rfl,b,c5,k,rfl,by omega,by omega,at_b,hc5,fun zs c6 zl zn zu hc6=>?_⟩
 rw [b0A]
 refine ⟨_,rfl,?_⟩
 refine ⟨fun i δ' S'=>∃ cb ls x1 x2 x3 x4 x5,a0w cb∧a9M rs (zs.take i) ls∧S'=(S0.set b cb).set p (.dic (a0B fL ls))∧δ'=[some (.obj b),some (.int n),some (.int k),some (.int sh),some (.int co),some (.lst (rs.map D.str)),some (.int h),some (.obj q),some (.obj p),x1,x2,x3,x4,x5],⟨c6,[],none,none,none,none,none,hc6,.nil,rfl,rfl⟩,fun _ _ _ _ _=>rfl,?_,?_⟩
 ·rintro i d0 δ' S' hd ⟨cb,ls,x1,x2,x3,x4,x5,hcb,ok,rfl,rfl⟩
  obtain ⟨e0,he,rfl⟩:=a4x hd
  rw [zbh,zam] at he
  obtain ⟨z,hz,rfl⟩:=he
  have hi:=(List.getElem?_eq_some_iff.mp hz).1
  have et:zs.take (i + 1)=zs.take i ++ [z]:=by rw [List.take_add_one,hz];rfl
  have new:z∉zs.take i:=fun h=>by
   obtain ⟨j,hj⟩:=List.mem_iff_getElem?.mp h
   have hji:j < i:=by have:=(List.getElem?_eq_some_iff.mp hj).1;rw [List.length_take] at this;omega
   rw [List.getElem?_take_of_lt hji] at hj
   have:=(List.getElem?_inj (by have:=(List.getElem?_eq_some_iff.mp hj).1;exact this) zu).mp (hj.trans hz.symm)
   omega
  refine ⟨_,rfl,rfl,?_⟩
  show a0c _ _ [some _,some _,some _,some _,some _,some _,some _,some _,some (.obj p),some (.int ((i:Nat):Int)),some (.str z),x3,x4,x5] _ _ _
  lia
  refine a4Q rfl ?_
  lia
  refine a0a (T:=a75) rfl ?_
  lia
  refine ⟨rfl,b,cb,sh,n,_,rfl,by omega,by omega,by omega,by omega,at_b,hcb,fun u v c2 u0 u1 v0 v1 hc2=>?_⟩
  rw [b0A]
  refine ⟨_,rfl,rfl,?_⟩
  show a0c _ _ [some _,some _,some _,some _,some _,some _,some _,some _,some (.obj p),some (.int ((i:Nat):Int)),some (.str z),some (.int u),some (.int v),x5] _ _ _
  lia
  refine a0a (T:=a74) rfl ?_
  lia
  refine ⟨rfl,b,c2,co,rfl,at_b,hc2,fun kk c3 k0 k1 hc3=>?_⟩
  rw [b0A]
  lia
  obtain ⟨u,rfl⟩:=Int.eq_ofNat_of_zero_le u0
  obtain ⟨v,rfl⟩:=Int.eq_ofNat_of_zero_le v0
  have hu:u < rs.length:=by omega
  have hv:v < rs.length:=by omega
  by_cases e:u=v
  ·rw [if_neg (by simp [e])]
   lia
   exact ⟨c3,ls,_,_,_,_,_,hc3,by rw [et];exact ok.skip,rfl,rfl⟩
  ·rw [if_pos (by simp;omega)]
   lia
   refine a3V (a1W (zbi hu)) ?_
   lia
   refine a3V (a1W (zbi hv)) ?_
   lia
   have ne:rs[v]≠rs[u]:=fun h=>e ((List.getElem_inj ru).mp h).symm
   have lz:z∉nms ls:=fun h=>by
    obtain ⟨q,hq,rfl⟩:=zan.mp h
    exact new (ok.one q hq).1
   have few:=ok.few
   rw [List.length_take] at few
   refine a5F zab rfl (by rw [a0D,zai];omega) ?_
   rw [zac,show (D.tup [.str rs[u],.str rs[v],.int kk])=fL (rs[u],rs[v],kk) from rfl,a06 lz]
   lia
   exact ⟨c3,_,_,_,_,_,_,hc3,by rw [et];exact ok.add new (List.getElem_mem hu) (List.getElem_mem hv) ne k0 k1,rfl,rfl⟩
 ·rintro δ' S' ⟨cb,ls,x1,x2,x3,x4,x5,hcb,ok,rfl,rfl⟩
  have el:(a1x (zs.map D.str)).length=zs.length:=by rw [a1y,zag]
  rw [el,List.take_length] at ok
  lia
  refine b1w fun M fM=>?_
  lia
  refine b5N (zs:=rs) (by omega) ?_
  lia
  have qp:q≠p:=zad (by rw [zaa bq.symm];exact hq0) fp
  have qM:q≠M:=zad (by rw [zaa qp,zaa bq.symm];exact hq0) fM
  refine ⟨ss,.inl (b0R (by rw [zaa qM,zaa qp,zaa bq.symm];exact hq0)),by omega,?_⟩
  unfold outL
  rw [if_neg zbe]
  lia
  have pM:p≠M:=zad zab fM
  have bM:b≠M:=zad at_b fM
  have few:=ok.few
  refine ⟨zab,_,rfl,by show 4≤15;decide,?_⟩
  rw [if_pos rfl,zac]
  refine hK ⟨rs,ls,[],a0i ss⟩ M p cb _ ⟨by show rs.length≤24;omega,rn,ru,by show ls.length≤40;omega,fun r hr=>?_,ok.u,Nat.zero_le _,(fun _ hr=>nomatch hr),List.nodup_nil,(fun _ _ h=>nomatch h),fun z hz=>List.mem_of_mem_take (ssub z (a5G.mp hz)),a7m su⟩ (a9u su) (fun h=>by have h:rs=[]:=h;rw [h] at rl;simp at rl;omega) rfl rl ?_ hcb ⟨pM.symm,zab,?_⟩
  ·obtain ⟨h1,h2⟩:=ok.one r hr
   exact ⟨zn _ h1,h2⟩
  ·rw [zaa bM];exact at_b
  ·rw [zaa pM];exact zab
 ) only [↓Qt.put_off]
variable {K:zbj}
theorem Grows.refl {S:SS}:Grows S S:=fun _ _=>rfl
theorem Grows.trans {S S1 S':SS} (h:Grows S S1) (k:Grows S1 S'):Grows S S':=fun q hq=>by rw [k q (by rw [h q hq];exact hq),h q hq]
theorem Grows.set {S:SS} {q:Addr} {c:Cell} (h:S q=none):Grows S (S.set q c):=fun a ha=>zaa fun e=>ha (by rw [e];exact h)
theorem Grows.at_ {S S':SS} {q:Addr} (h:Grows S S') {c:Cell} (e:S q=some c):S' q=some c:=by rw [h q (by rw [e];exact nofun)];exact e
theorem a2e.grow {S S':SS} {C L a b c d:Addr} {t:Lay} (h:a2e C S L a b c d t) (g:Grows S S'):a2e C S' L a b c d t:=⟨g.at_ h.L,g.at_ h.a,g.at_ h.b,g.at_ h.c,g.at_ h.d⟩
theorem a8C (c:SaysX fa fn fx K) {m0:Option (Addr × Obj)} {i:Nat} {S:SS} {x:D} {Q:Bool→Prop} (h:a80 x) (k:Q false) :
  ∃ t b,tyD S x=some t∧a4S ((tb K).G K i m0).toGm S x∧PySem.W.kitOne ((tb K).G K i m0).toGm.K t ((Cn.own 7).val ((tb K).G K i m0).toGm)=some b∧Q b:=by
 have no:∀ {n:String},(PySem.fastBuiltinMro n).any (fun l=>!l.any fun v=>match v with | .ref _=>true | _=>false)=true→PySem.W.kitOne K (.type n) (.ref (He.ga K "Layout"))=some false:=fun {n} h=>b6w (a0b c) (c.fact 24 rfl) h
 rcases h with rfl | rfl | rfl | rfl
 ·exact a3s (b:=false) rfl trivial (no (by decide +kernel)) k
 ·exact a3s (b:=false) rfl trivial (no (by decide +kernel)) k
 ·exact a3s (b:=false) rfl trivial (no (by decide +kernel)) k
 ·exact a3s (b:=false) rfl trivial (no (by decide +kernel)) k
theorem a8y {S:SS}:Grows S S:=fun _ _=>rfl
theorem a2s {α:Type} {l:List (Str × α)} {z:Str} {x:α} (h:l.lookup z=some x):(z,x)∈l:=by
 induction l with
 | nil=>cases h
 | cons q l ih =>
  obtain ⟨y,v⟩:=q
  by_cases e:z=y
  ·subst e
   rw [List.lookup_cons_self] at h
   cases h
   exact zal
  ·rw [List.lookup_cons,beq_eq_false_iff_ne.mpr e] at h
   exact zao _ (ih h)
theorem a6f {α:Type} {p:α→Bool} {x:α}:∀ {l:List α} {i:Nat},(∀ y∈l.take i,p y=false)→l[i]?=some x→p x=true→l.find? p=some x
 | [],i,_,h,_=>by simp at h
 | y :: l,0,_,h,hx=>by
  cases h
  exact List.find?_cons_of_pos hx
 | y :: l,i + 1,no,h,hx=>by
  rw [List.find?_cons_of_neg (by rw [no y (by simp)];exact zbe)]
  exact a6f (i:=i) (fun z hz=>no z (by rw [List.take_succ_cons];exact zao _ hz)) (by simpa using h) hx
theorem a8t {α:Type} {p:α→Bool} {l:List α} (h:∀ y∈l,p y=false):l.find? p=none:=List.find?_eq_none.mpr fun y hy=>by rw [h y hy];exact zbe
theorem a7p {w:Wo} (ok:a2f w) {z:Str} {q:Str × Str × Int} (h:w.lines.lookup z=some q):z∈a0r w↔q.2.2≠0:=by
 constructor
 ·intro hz
  obtain ⟨_,q',e,h0⟩:=a2c ok hz
  have e:w.lines.lookup z=some q':=e
  rw [h] at e
  cases e
  exact h0
 ·intro h0
  have mq:=a2s h
  refine zan.mpr ⟨(z,q),zay.mpr ⟨mq,?_⟩,rfl⟩
  obtain ⟨_,_,_,_,k0,_⟩:=ok.ln _ mq
  have:(0:Int) < q.2.2:=by
   have k0:(0:Int)≤q.2.2:=k0
   omega
  exact zbg this
theorem me9 (c:SaysX fa fn fx K):Meets ((tb K).sn N9) ((tb K).G K 9) 2 false (a5T K) b9:=by
 refine Qt.put_in ?_
 simp (disch :=
 with_unfolding_all
 refine Qt.keep ?_
 rintro m hm ds S KK Y ⟨rfl,i,b,rfl,h⟩
 refine ⟨rfl,?_⟩
 show a0c _ b9 [some _,some _] _ _ _
 unfold b9
 cases b with
 | true =>
  lia
  rw [if_neg (by decide)]
  lia
  exact h
 | false =>
  lia
  rw [if_pos (by decide)]
  lia
  exact a1C rfl rfl rfl (by lia;exact ⟨_,rfl,h⟩)
 ) only [↓Qt.put_off]
theorem a4V (c:SaysX fa fn fx K) {x y:Str} (hx:x∈b3q) (hy:y∈b3q):PySem.W.kitOne K (.ref (He.ga K x)) (.ref (He.ga K y))=some (decide (x=y)):=b5J (c.fact 19 rfl) hx hy
theorem b0U:∀ bs:List Bool,((bs.map D.bl).countP fun z=>D.eqv z (.bl true))=bs.count true
 | []=>rfl
 | b :: bs=>by
  have e:D.eqv (.bl b) (.bl true)=(b == true):=by
   simp only [D.eqv,D.py,PyData.eqv]
  rw [zax,List.countP_cons,b0U bs,List.count_cons,e]
theorem b1u {S:SS} {KK:DK} {bs:List Bool} (k:KK (.int (bs.count true:Nat)) S):Mn.cnt.den (.lst (bs.map D.bl)) [.bl true] S KK:=by
 refine ⟨_,rfl,?_,rfl,by rw [show vw S (.bl true)=.bl true from rfl,b0U];exact k⟩
 clear k
 induction bs with
 | nil=>rfl
 | cons b bs ih=>simp only [zax,D.okds,D.okd,Bool.true_and];exact ih
theorem b86 (c:SaysX fa fn fx K):Meets ((tb K).sn N11) ((tb K).G K 11) 1 true (a4n K) b11:=by
 refine Qt.put_in ?_
 simp (disch :=
 with_unfolding_all
 refine Qt.keep ?_
 rintro m hm ds S KK Y ⟨a,oe,X,f,v,rfl,rfl,hX,hK⟩
 refine ⟨rfl,?_⟩
 show a0c _ b11 [some _,none] _ _ _
 unfold b11
 rcases hX with ⟨rfl,rfl⟩ | ⟨rfl,rfl⟩ | ⟨rfl,rfl⟩
 ·have hx:("Wrong" : Str)∈b3q:=by decide +kernel
  have hF:a7R K (He.ga K "Wrong"):=a6c (c.fact 22 rfl) hx
  have hv:PySem.W.kitOne K (.ref (He.ga K "Wrong")) ((Cn.ty "ValueError").val ((tb K).G K 11 (some (a,oe))).toGm)=some true:=a9F (c.fact 20 rfl) hx
  lia
  refine a1a rfl hF (a4V c (x := "Wrong") (y := "Wrong") hx (by decide +kernel)) ?_
  lia
  refine a1a rfl hF (a4V c (x := "Wrong") (y := "Lacks") hx (by decide +kernel)) ?_
  lia
  refine a1a rfl hF (a4V c (x := "Wrong") (y := "NoPart") hx (by decide +kernel)) ?_
  lia
  refine a1a rfl hF (a4V c (x := "Wrong") (y := "There") hx (by decide +kernel)) ?_
  lia
  refine a1a rfl hF (a4V c (x := "Wrong") (y := "TooMany") hx (by decide +kernel)) ?_
  lia
  refine a1a rfl hF (a4V c (x := "Wrong") (y := "Held") hx (by decide +kernel)) ?_
  lia
  refine a1a rfl hF hv ?_
  lia
  rw [if_neg (by decide)]
  lia
  refine ⟨⟨_,rfl⟩,?_⟩
  lia
  refine b1u (bs:=[decide (("Wrong" : Str) = "Wrong"),decide (("Wrong" : Str) = "Lacks"),decide (("Wrong" : Str) = "NoPart"),decide (("Wrong" : Str) = "There"),decide (("Wrong" : Str) = "TooMany"),decide (("Wrong" : Str) = "Held")]) ?_
  lia
  rw [if_neg (by decide +kernel)]
  lia
  rw [show (3:Int)=((3:Nat):Int) from rfl,a2Y (by show 3≤6;decide)]
  refine ⟨rfl,rfl,?_⟩
  lia
  rw [show vw S (.bl true)=.bl true from rfl,if_neg (by decide +kernel)]
  try rw [if_neg zbe]
  lia
  refine a3V (d:=.bl (decide (("Wrong" : Str) = "Wrong"))) rfl ?_
  lia
  rw [if_pos (by decide +kernel)]
  try rw [if_pos rfl]
  lia
  refine b1I rfl hF (a2u (c.fact 2 rfl)) rfl ?_
  lia
  exact hK
 ·have hx:("Lacks" : Str)∈b3q:=by decide +kernel
  have hF:a7R K (He.ga K "Lacks"):=a6c (c.fact 22 rfl) hx
  have hv:PySem.W.kitOne K (.ref (He.ga K "Lacks")) ((Cn.ty "ValueError").val ((tb K).G K 11 (some (a,oe))).toGm)=some true:=a9F (c.fact 20 rfl) hx
  lia
  refine a1a rfl hF (a4V c (x := "Lacks") (y := "Wrong") hx (by decide +kernel)) ?_
  lia
  refine a1a rfl hF (a4V c (x := "Lacks") (y := "Lacks") hx (by decide +kernel)) ?_
  lia
  refine a1a rfl hF (a4V c (x := "Lacks") (y := "NoPart") hx (by decide +kernel)) ?_
  lia
  refine a1a rfl hF (a4V c (x := "Lacks") (y := "There") hx (by decide +kernel)) ?_
  lia
  refine a1a rfl hF (a4V c (x := "Lacks") (y := "TooMany") hx (by decide +kernel)) ?_
  lia
  refine a1a rfl hF (a4V c (x := "Lacks") (y := "Held") hx (by decide +kernel)) ?_
  lia
  refine a1a rfl hF hv ?_
  lia
  rw [if_neg (by decide)]
  lia
  refine ⟨⟨_,rfl⟩,?_⟩
  lia
  refine b1u (bs:=[decide (("Lacks" : Str) = "Wrong"),decide (("Lacks" : Str) = "Lacks"),decide (("Lacks" : Str) = "NoPart"),decide (("Lacks" : Str) = "There"),decide (("Lacks" : Str) = "TooMany"),decide (("Lacks" : Str) = "Held")]) ?_
  lia
  rw [if_neg (by decide +kernel)]
  lia
  rw [show (3:Int)=((3:Nat):Int) from rfl,a2Y (by show 3≤6;decide)]
  refine ⟨rfl,rfl,?_⟩
  lia
  rw [show vw S (.bl true)=.bl true from rfl,if_neg (by decide +kernel)]
  try rw [if_neg zbe]
  lia
  refine a3V (d:=.bl (decide (("Lacks" : Str) = "Wrong"))) rfl ?_
  lia
  rw [if_neg (by decide +kernel)]
  lia
  refine a3V (d:=.bl (decide (("Lacks" : Str) = "Lacks"))) rfl ?_
  lia
  rw [if_pos (by decide +kernel)]
  try rw [if_pos rfl]
  lia
  refine b1I rfl hF (a2u (c.fact 8 rfl)) rfl ?_
  lia
  exact hK
 ·have hx:("NoPart" : Str)∈b3q:=by decide +kernel
  have hF:a7R K (He.ga K "NoPart"):=a6c (c.fact 22 rfl) hx
  have hv:PySem.W.kitOne K (.ref (He.ga K "NoPart")) ((Cn.ty "ValueError").val ((tb K).G K 11 (some (a,oe))).toGm)=some true:=a9F (c.fact 20 rfl) hx
  lia
  refine a1a rfl hF (a4V c (x := "NoPart") (y := "Wrong") hx (by decide +kernel)) ?_
  lia
  refine a1a rfl hF (a4V c (x := "NoPart") (y := "Lacks") hx (by decide +kernel)) ?_
  lia
  refine a1a rfl hF (a4V c (x := "NoPart") (y := "NoPart") hx (by decide +kernel)) ?_
  lia
  refine a1a rfl hF (a4V c (x := "NoPart") (y := "There") hx (by decide +kernel)) ?_
  lia
  refine a1a rfl hF (a4V c (x := "NoPart") (y := "TooMany") hx (by decide +kernel)) ?_
  lia
  refine a1a rfl hF (a4V c (x := "NoPart") (y := "Held") hx (by decide +kernel)) ?_
  lia
  refine a1a rfl hF hv ?_
  lia
  rw [if_neg (by decide)]
  lia
  refine ⟨⟨_,rfl⟩,?_⟩
  lia
  refine b1u (bs:=[decide (("NoPart" : Str) = "Wrong"),decide (("NoPart" : Str) = "Lacks"),decide (("NoPart" : Str) = "NoPart"),decide (("NoPart" : Str) = "There"),decide (("NoPart" : Str) = "TooMany"),decide (("NoPart" : Str) = "Held")]) ?_
  lia
  rw [if_neg (by decide +kernel)]
  lia
  rw [show (3:Int)=((3:Nat):Int) from rfl,a2Y (by show 3≤6;decide)]
  refine ⟨rfl,rfl,?_⟩
  lia
  rw [show vw S (.bl true)=.bl true from rfl,if_neg (by decide +kernel)]
  try rw [if_neg zbe]
  lia
  refine a3V (d:=.bl (decide (("NoPart" : Str) = "Wrong"))) rfl ?_
  lia
  rw [if_neg (by decide +kernel)]
  lia
  refine a3V (d:=.bl (decide (("NoPart" : Str) = "Lacks"))) rfl ?_
  lia
  rw [if_neg (by decide +kernel)]
  lia
  refine b1I rfl hF (a2u (c.fact 17 rfl)) rfl ?_
  lia
  exact hK
 ) only [↓Qt.put_off]
def doWo (g:Wo):a6D→Wo
 | .room z=>{ g with rooms:=g.rooms ++ [z] }
 | .line l x y n=>{ g with lines:=g.lines ++ [(l,x,y,n)] }
 | .drain d r=>{ g with drains:=g.drains ++ [(d,r)] }
 | .source z=>{ g with srcs:=g.srcs ++ [z] }
 | .takeR z=>{ g with rooms:=g.rooms.filter fun y=>decide (y≠z) }
 | .takeL z=>{ g with lines:=without g.lines z }
 | .takeD z=>{ g with drains:=without g.drains z }
 | .takeS z=>{ g with srcs:=g.srcs.filter fun y=>decide (y≠z) }
section
variable {g:Wo}
theorem a4j {zs:List Str} {z:Str}:without (units zs) z=units (zs.filter fun y=>decide (y≠z)):=by
 unfold without units
 rw [List.filter_map]
 rfl
theorem a5L {zs ys:List Str}:units (zs ++ ys)=units zs ++ units ys:=by unfold units;exact zav
theorem a4v {e:a6D}:(doWo g e).lay=c08 g.lay e:=by
 cases e with
 | room z=>show (⟨units (g.rooms ++ [z]),_,_,_,_⟩:Lay)=⟨units g.rooms ++ [(z,())],_,_,_,_⟩;rw [a5L];rfl
 | source z=>show (⟨_,_,_,units (g.srcs ++ [z]),_⟩:Lay)=⟨_,_,_,units g.srcs ++ [(z,())],_⟩;rw [a5L];rfl
 | takeR z=>show (⟨units (g.rooms.filter _),_,_,_,_⟩:Lay)=⟨without (units g.rooms) z,_,_,_,_⟩;rw [a4j];rfl
 | takeS z=>show (⟨_,_,_,units (g.srcs.filter _),_⟩:Lay)=⟨_,_,_,without (units g.srcs) z,_⟩;rw [a4j];rfl
 | _=>rfl
theorem a4M {α:Type} {l:List α} {x:α} (u:l.Nodup) (h:x∉l):(l ++ [x]).Nodup :=
 List.nodup_append.mpr ⟨u,by simp,fun a ha b hb e=>h (by rw [← zaj.mp hb,← e];exact ha)⟩
theorem a1O {α:Type} {l:List α} {x y:α} (h:y∈l ++ [x]):y∈l∨y=x:=(zap.mp h).imp_right zaj.mp
theorem b2o {α:Type} {a b:List (Str × α)}:nms (a ++ b)=nms a ++ nms b:=zav
theorem a3d {α:Type} {l:List (Str × α)} {z:Str} {x:α}:nms (l ++ [(z,x)])=nms l ++ [z]:=b2o
theorem a1M {l:List Str} {z y:Str}:y∈l.filter (fun y=>decide (y≠z))↔y∈l∧y≠z:=by rw [zay,zah]
theorem a1X:∀ {l:List Str},a0A g.lay l=none→∀ z∈l,z∈g.rooms
 | [],_,_,h=>nomatch h
 | y :: l,d,z,h=>by
  unfold a0A at d
  split at d
  ·rename_i hy
   rcases zau.mp h with rfl | h
   ·have hy:z∈nms (units g.rooms):=hy
    rwa [a0j] at hy
   ·exact a1X d z h
  ·cases d
theorem or_none {α:Type} {a b:Option α} (h:a.or b=none):a=none∧b=none:=by
 cases a with
 | none=>exact ⟨rfl,h⟩
 | some x=>cases h
theorem a6m {α:Type} {l:List (Str × α)} {z y:Str}:y∈nms (without l z)↔y∈nms l∧y≠z:=by rw [a1n,zay,zah]
theorem a2f.doWo {e:a6D} (h:a2f g) (ok:e.Ok) (d:due g.lay e=none):a2f (doWo g e):=by
 have hr:=h.r
 have hl:=h.l
 have hd:=h.d
 cases e with
 | room z =>
  have d:(if z∈nms (units g.rooms) then some (Rf.there z) else if (units g.rooms).length=24 then some (.many 24) else none)=none:=d
  rw [a0j] at d
  split at d
  ·cases d
  ·rename_i new
   split at d
   ·cases d
   ·rename_i few
    have few:g.rooms.length≠24:=fun e=>few (by unfold units;rw [zag];exact e)
    have up:∀ {y:Str},y∈g.rooms→y∈g.rooms ++ [z]:=fun h=>zar _ h
    exact ⟨by show (g.rooms ++ [z]).length≤24;rw [zaw];show g.rooms.length + 1≤24;omega,
     fun y hy=>(a1O hy).elim (h.rn y) fun e=>e ▸ ok,a4M h.ru new,hl,
     fun q hq=>⟨(h.ln q hq).1,up (h.ln q hq).2.1,up (h.ln q hq).2.2.1,(h.ln q hq).2.2.2⟩,h.lu,hd,fun q hq=>⟨(h.dn q hq).1,up (h.dn q hq).2⟩,h.du,h.ld,fun y hy=>up (h.s y hy),h.su⟩
 | line l x y n =>
  have d:(if l∈nms g.lines∨l∈nms g.drains then some (Rf.there l) else (a0A g.lay [x,y]).or (if g.lines.length=40 then some (.many 40) else none))=none:=d
  split at d
  ·cases d
  ·rename_i new
   obtain ⟨d1,d2⟩:=or_none d
   have rm:=a1X d1
   split at d2
   ·cases d2
   ·rename_i few
    obtain ⟨o1,o2,o3,o4,o5,o6⟩:=ok
    exact ⟨hr,h.rn,h.ru,by show (g.lines ++ [_]).length≤40;rw [zaw];show g.lines.length + 1≤40;omega,
     fun q hq=>(a1O hq).elim (h.ln q) fun e=>by
      subst e
      exact ⟨o1,rm x (by simp),rm y (by simp),o4,o5,o6⟩,
     by show (nms (g.lines ++ [_])).Nodup;rw [a3d];exact a4M h.lu fun e=>new (.inl e),hd,h.dn,h.du,
     fun z hz hz2=>by
      have hz:z∈nms (g.lines ++ [(l,x,y,n)]):=hz
      rw [a3d] at hz
      rcases a1O hz with hz | rfl
      ·exact h.ld z hz hz2
      ·exact new (.inr hz2),h.s,h.su⟩
 | drain dr r =>
  have d:(if dr∈nms g.lines∨dr∈nms g.drains then some (Rf.there dr) else (a0A g.lay [r]).or (if g.drains.length=12 then some (.many 12) else none))=none:=d
  split at d
  ·cases d
  ·rename_i new
   obtain ⟨d1,d2⟩:=or_none d
   have rm:=a1X d1
   split at d2
   ·cases d2
   ·rename_i few
    exact ⟨hr,h.rn,h.ru,hl,h.ln,h.lu,by show (g.drains ++ [_]).length≤12;rw [zaw];show g.drains.length + 1≤12;omega,
     fun q hq=>(a1O hq).elim (h.dn q) fun e=>by
      subst e
      exact ⟨ok.1,rm r (by simp)⟩,
     by show (nms (g.drains ++ [_])).Nodup;rw [a3d];exact a4M h.du fun e=>new (.inr e),
     fun z hz hz2=>by
      have hz2:z∈nms (g.drains ++ [(dr,r)]):=hz2
      rw [a3d] at hz2
      rcases a1O hz2 with hz2 | rfl
      ·exact h.ld z hz hz2
      ·exact new (.inl hz),h.s,h.su⟩
 | source z =>
  have d:(if z∈nms (units g.rooms) then (if z∈nms (units g.srcs) then some (Rf.there z) else none) else some (.lacks z))=none:=d
  rw [a0j,a0j] at d
  split at d
  ·rename_i hz
   split at d
   ·cases d
   ·rename_i new
    exact ⟨hr,h.rn,h.ru,hl,h.ln,h.lu,hd,h.dn,h.du,h.ld,fun y hy=>(a1O hy).elim (h.s y) fun e=>e ▸ hz,a4M h.su new⟩
  ·cases d
 | takeR z =>
  have d:(if z∈nms (units g.rooms) then (if atR g.lay z≠[]∨z∈g.drains.map (·.2)∨z∈nms (units g.srcs) then some (Rf.inuse z) else none) else some (.lacks z))=none:=d
  rw [a0j,a0j] at d
  split at d
  ·split at d
   ·cases d
   ·rename_i no
    have no1:atR g.lay z=[]:=Decidable.byContradiction fun e=>no (.inl e)
    have no2:z∉g.drains.map (·.2):=fun e=>no (.inr (.inl e))
    have no3:z∉g.srcs:=fun e=>no (.inr (.inr e))
    have end_:∀ q∈g.lines,q.2.1≠z∧q.2.2.1≠z:=fun q hq=>by
     unfold atR nms at no1
     have:=List.filter_eq_nil_iff.mp (List.map_eq_nil_iff.mp no1) q hq
     simp only [zah,zau,zba,or_false,not_or] at this
     exact ⟨fun e=>this.1 e.symm,fun e=>this.2 e.symm⟩
    exact ⟨Nat.le_trans (zbb _ _) hr,fun y hy=>h.rn y (a1M.mp hy).1,h.ru.filter _,hl,
     fun q hq=>⟨(h.ln q hq).1,a1M.mpr ⟨(h.ln q hq).2.1,(end_ q hq).1⟩,a1M.mpr ⟨(h.ln q hq).2.2.1,(end_ q hq).2⟩,(h.ln q hq).2.2.2⟩,h.lu,hd,
     fun q hq=>⟨(h.dn q hq).1,a1M.mpr ⟨(h.dn q hq).2,fun e=>no2 (zan.mpr ⟨q,hq,e⟩)⟩⟩,h.du,h.ld,
     fun y hy=>a1M.mpr ⟨h.s y hy,fun e=>no3 (e ▸ hy)⟩,h.su⟩
  ·cases d
 | takeL z=>exact ⟨hr,h.rn,h.ru,Nat.le_trans a2d hl,fun q hq=>h.ln q (a3R hq),by show (nms (without g.lines z)).Nodup;rw [a1n];exact h.lu.filter _,hd,h.dn,h.du,fun y hy=>h.ld y (a6m.mp hy).1,h.s,h.su⟩
 | takeD z=>exact ⟨hr,h.rn,h.ru,hl,h.ln,h.lu,Nat.le_trans a2d hd,fun q hq=>h.dn q (a3R hq),by show (nms (without g.drains z)).Nodup;rw [a1n];exact h.du.filter _,fun y hy hy2=>h.ld y hy (a6m.mp hy2).1,h.s,h.su⟩
 | takeS z=>exact ⟨hr,h.rn,h.ru,hl,h.ln,h.lu,hd,h.dn,h.du,h.ld,fun y hy=>h.s y (a1M.mp hy).1,h.su.filter _⟩
end
theorem Dtt.s {z:Str} (h:Dtt (.str z)):z.length≤100000∧fine z=true:=by
 cases h with
 | str _ h f=>exact ⟨h,f⟩
theorem Dtt.nm {z:Str} (h:Nm z):Dtt (.str z):=.str z (by have:=h.len;omega) h.fine
theorem Dtt.strs {zs:List Str} (h:∀ z∈zs,Nm z):Dtt (.lst (zs.map D.str)):=.lst _ fun d hd=>by
 obtain ⟨z,hz,rfl⟩:=zan.mp hd
 exact Dtt.nm (h z hz)
theorem a91 {x:D} {ds:List D} (h:Dtt x) (e:x=.lst ds∨x=.tup ds):∀ d∈ds,Dtt d:=by
 rcases e with rfl | rfl <;> (cases h;assumption)
def a95 (n:String):D→Bool
 | .str _=>n == "str"
 | .int _=>n == "int"
 | .bl _=>n == "bool" || n == "int"
 | .lst _=>n == "list"
 | .tup _=>n == "tuple"
 | .dic _=>n == "dict"
 | _=>false
theorem b4V {G:Gm} {S:SS} {x:D} {n:String} {Q:Bool→Prop} (hn:n∈["str", "int", "bool", "list", "tuple"]) (hx:Dtt x) (k:Q (a95 n x)):∃ t b,tyD S x=some t∧a4S G S x∧PySem.W.kitOne G.K t ((Cn.ty n).val G)=some b∧Q b:=by
 simp only [zau,zba,or_false] at hn
 rcases hn with rfl | rfl | rfl | rfl | rfl <;> cases hx <;> exact a3s rfl trivial (by first | rfl | kernel_rfl) k
theorem a4z {S:SS}:Grows S S:=fun _ _=>rfl
theorem a1D:∀ {a b:List Str},D.lst (a.map D.str)=.lst (b.map D.str)→a=b
 | [],[],_=>rfl
 | [],_ :: _,h=>by simp at h
 | _ :: _,[],h=>by simp at h
 | x :: a,y :: b,h=>by
  simp only [zax,D.lst.injEq,List.cons.injEq,D.str.injEq] at h
  rw [h.1,a1D (a:=a) (b:=b) (by rw [h.2])]
theorem tru {P:Prop} (h:P):(true=true↔P):=⟨fun _=>h,fun _=>rfl⟩
theorem fal {P:Prop} (h:¬ P):(false=true↔P):=⟨fun e=>(nomatch e),fun p=>absurd p h⟩
theorem a5p {c:Nat}:c∈("abcdefghijklmnopqrstuvwxyz" : Str).cps.toList↔97≤c∧c≤122:=by
 have e:("abcdefghijklmnopqrstuvwxyz" : Str).cps.toList=List.range' 97 26:=by decide +kernel
 rw [e,List.mem_range'_1]
 omega
theorem c1H (c:SaysX fa fn fx K):Meets ((tb K).sn N4) ((tb K).G K 4) 1 false (TQA NmP) b4:=by
 refine Qt.put_in ?_
 simp (disch :=
 with_unfolding_all
 refine Qt.keep ?_
 rintro m hm ds S KK Y ⟨rfl,x,rfl,hx,hK⟩
 refine ⟨rfl,?_⟩
 show a0c _ b4 [some _,none] _ _ _
 unfold b4
 by_cases hs:∃ z,x=.str z
 ·obtain ⟨z,rfl⟩:=hs
  have lz:=hx.s.1
  have el:z.length=z.cps.toList.length:=by rw [Array.length_toList];rfl
  have no:¬ Nm z→¬ NmP (.str z):=fun h ⟨y,e,hy⟩=>by cases e;exact h hy
  lia
  refine a8D ?_
  lia
  rw [if_neg (by decide)]
  lia
  refine b43 (by rw [zai];omega) ?_
  lia
  by_cases h1:(1:Int)≤(z.length:Int)
  ·rw [if_pos (zbg h1)]
   lia
   by_cases h2:(z.length:Int)≤8
   ·rw [if_neg (by simpa using h2)]
    lia
    refine ⟨fun i δ' S'=>∃ x,S'=S∧δ'=[some (.str z),x]∧∀ j c,j < i→z.cps.toList[j]?=some c→97≤c∧c≤122,⟨none,rfl,rfl,fun j c h=>absurd h (Nat.not_lt_zero _)⟩,fun _ _ _ _ _=>trivial,?_,?_⟩
    ·rintro i d δ' S' hd ⟨x,rfl,rfl,sofar⟩
     unfold a0x at hd
     rw [zbh,zam] at hd
     obtain ⟨ch,hc,rfl⟩:=hd
     refine a2G ?_
     lia
     by_cases hl:ch∈("abcdefghijklmnopqrstuvwxyz" : Str).cps.toList
     ·rw [if_neg (by simpa using hl)]
      lia
      refine ⟨_,rfl,rfl,fun j c hj e=>?_⟩
      by_cases ej:j=i
      ·subst ej
       rw [hc] at e
       cases e
       exact a5p.mp hl
      ·exact sofar j c (by omega) e
     ·rw [if_pos (by simpa using hl)]
      lia
      exact hK false (fal (no fun h=>hl (a5p.mpr (h.2.2 ch (zaq hc)))))
    ·rintro δ' S' ⟨x,rfl,rfl,all⟩
     lia
     refine hK true (tru ⟨z,rfl,by omega,by omega,fun c hc=>?_⟩)
     obtain ⟨j,hj⟩:=List.mem_iff_getElem?.mp hc
     refine all j c ?_ hj
     unfold a0x
     rw [zag]
     exact (List.getElem?_eq_some_iff.mp hj).1
   ·rw [if_pos (by simpa using h2)]
    lia
    exact hK false (fal (no fun h=>by have:=h.1;omega))
  ·rw [if_neg (by rw [zah];exact h1)]
   lia
   exact hK false (fal (no fun h=>by have:=h.2.1;omega))
 ·have no:¬ NmP x:=fun ⟨z,e,_⟩=>hs ⟨z,e⟩
  have e:a95 "str" x=false:=by cases x <;> first | rfl | exact absurd ⟨_,rfl⟩ hs
  lia
  refine b4V (n := "str") (by decide) hx ?_
  rw [e]
  lia
  rw [if_pos (by decide)]
  rw [if_pos rfl]
  lia
  exact hK false (fal no)
 ) only [↓Qt.put_off]
theorem a9y {l:List D} {zs:List Str} {i:Nat} {z:Str} (h:l.take i=zs.map D.str) (e:l[i]?=some (.str z)):l.take (i + 1)=(zs ++ [z]).map D.str:=by
 rw [List.take_add_one,h,e,zav]
 rfl
theorem b0G {l:List D} {zs ws:List Str} {i:Nat} (h:l.take i=zs.map D.str) (e:l=ws.map D.str):zs=ws.take i:=by
 subst e
 rw [← List.map_take] at h
 exact (a1D (by rw [h])).symm
theorem b7E (c:SaysX fa fn fx K):Meets ((tb K).sn N25) ((tb K).G K 25) 1 false (TPA a2g) b25:=by
 refine Qt.put_in ?_
 simp (disch :=
 with_unfolding_all
 refine Qt.keep ?_
 rintro m hm ds S KK Y ⟨rfl,x,rfl,hx,hK⟩
 refine ⟨rfl,?_⟩
 show a0c _ b25 [some _,none,none] _ _ _
 unfold b25
 lia
 refine b4V (n := "list") (by decide) hx ?_
 by_cases hs:∃ l,x=.lst l
 ·obtain ⟨l,rfl⟩:=hs
  rw [show a95 "list" (.lst l)=true from rfl]
  lia
  rw [if_neg (by decide)]
  lia
  by_cases few:(60:Int) < (l.length:Int)
  ·rw [if_pos (zbg few)]
   lia
   refine hK false _ a4z (fal fun ⟨zs,e,_,_,h⟩=>?_)
   cases e
   rw [zag] at few
   omega
  rw [if_neg (by rw [zah];exact few)]
  lia
  refine a3m fun p fp=>?_
  lia
  refine ⟨_,rfl,?_⟩
  refine ⟨fun i δ' S'=>∃ x zs,S'=S.set p (.dic (a0B fU (units zs)))∧δ'=[some (.lst l),some (.obj p),x]∧l.take i=zs.map D.str∧zs.Nodup∧(∀ z∈zs,Nm z),⟨none,[],rfl,rfl,rfl,List.nodup_nil,fun z h=>nomatch h⟩,fun _ _ _ _ _=>rfl,?_,?_⟩
  ·rintro i d δ' S' hd ⟨x,zs,rfl,rfl,et,u,nm⟩
   have hi:i < l.length:=(List.getElem?_eq_some_iff.mp hd).1
   have zl:zs.length≤i:=by
    have:=congrArg List.length et
    rw [List.length_take,zag] at this
    omega
   have gr:Grows S (S.set p (.dic (a0B fU (units zs)))):=Grows.set fp
   refine a2G ?_
   lia
   refine a5J (T:=TOr a0M (TQA NmP)) rfl ?_
   lia
   refine Or.inr ⟨rfl,d,rfl,a91 hx (.inl rfl) d (zaq hd),fun k hk=>?_⟩
   lia
   by_cases h:k=true
   ·obtain ⟨z,rfl,hz⟩:=hk.mp h
    subst h
    rw [if_neg (by decide)]
    lia
    refine b1O zab rfl ?_
    rw [a1b,a0j]
    lia
    by_cases hin:z∈zs
    ·rw [if_pos (zbg hin)]
     lia
     refine hK false _ gr (fal fun ⟨ws,e,wu,wn,wl⟩=>?_)
     cases e
     have e1:=b0G et rfl
     rw [zbh,zam] at hd
     obtain ⟨y,hy,ey⟩:=hd
     cases ey
     have nw:=a4e wu hy
     rw [← e1] at nw
     exact nw hin
    ·rw [if_neg (by rw [zah];exact hin)]
     lia
     refine a5F zab rfl (by rw [a0D,zai];unfold units;rw [zag];omega) ?_
     rw [zac,show (D.bl true)=fU () from rfl,a06 (show z∉nms (units zs) from by rw [a0j];exact hin),← a1P]
     lia
     exact ⟨_,zs ++ [z],rfl,rfl,a9y et hd,List.nodup_append.mpr ⟨u,by simp,fun a ha b hb e=>hin (by rw [← zaj.mp hb,← e];exact ha)⟩,fun y hy=>(zap.mp hy).elim (nm y) fun h=>by rw [zaj.mp h];exact hz⟩
   ·rw [Bool.not_eq_true] at h
    subst h
    rw [if_pos (by decide)]
    rw [if_pos rfl]
    lia
    refine hK false _ gr (fal fun ⟨ws,e,wu,wn,wl⟩=>?_)
    cases e
    rw [zbh,zam] at hd
    obtain ⟨y,hy,rfl⟩:=hd
    exact nomatch hk.mpr ⟨y,rfl,wn y (zaq hy)⟩
  ·rintro δ' S' ⟨x,zs,rfl,rfl,et,u,nm⟩
   refine a9x rfl zab ?_
   rw [zaf fp]
   lia
   rw [List.take_length] at et
   subst et
   exact hK true _ a4z (tru ⟨zs,rfl,u,nm,by rw [zag] at few;omega⟩)
 ·have e:a95 "list" x=false:=by cases x <;> first | rfl | exact absurd ⟨_,rfl⟩ hs
  rw [e]
  lia
  rw [if_pos (by decide)]
  rw [if_pos rfl]
  lia
  exact hK false _ a4z (fal fun ⟨zs,e,_⟩=>hs ⟨_,e⟩)
 ) only [↓Qt.put_off]
theorem me4 (c:SaysX fa fn fx K):Meets ((tb K).sn N4) ((tb K).G K 4) 1 false (TOr a0M (TQA NmP)) b4:=fun m hm ds S KK Y h=>h.elim (ok4 c m hm ds S KK Y) (c1H c m hm ds S KK Y)
theorem c2V (c:SaysX fa fn fx K):Meets ((tb K).sn N25) ((tb K).G K 25) 1 false (TOr a1u (TPA a2g)) b25:=fun m hm ds S KK Y h=>h.elim (c3b c m hm ds S KK Y) (b7E c m hm ds S KK Y)
theorem a6W {z:Str} {n:Nat} (h:Nm z):lfD n (.str z)=true:=by
 simp only [lfD,zak,zah];exact ⟨b2n h,h.fine⟩
theorem a2X {z:Str} (h:Nm z):(D.str z).py.bulk≤8:=by
 have:=h.1
 rw [Array.length_toList] at this
 simpa only [D.py,PyData.bulk] using this
theorem a4D {zs:List Str} {n:Nat} (hn:0 < n) (h:∀ z∈zs,Nm z):lfD n (.lst (zs.map D.str))=true:=by
 simp only [lfD,zak,zah]
 refine ⟨hn,a3c fun d hd=>?_⟩
 obtain ⟨z,hz,rfl⟩:=zan.mp hd
 exact a6W (h z hz)
theorem a2m {zs:List Str} (h:∀ z∈zs,Nm z):(D.lst (zs.map D.str)).py.bulk≤zs.length * 9:=by
 have:=a4s (b:=8) (ds:=zs.map D.str) fun d hd=>by
  obtain ⟨z,hz,rfl⟩:=zan.mp hd
  exact a2X (h z hz)
 rw [zag] at this
 exact this
theorem a7I {z:Str} (h:Nm z):Plain (.tup [.str "Lacks",.str z]):=by
 have x:=a6W (n:=19) h
 have b:=a2X h
 refine a2y ?_ ?_
 ·rw [show lfD 20 (.tup [.str "Lacks",.str z])=(true && (lfD 19 (.str "Lacks") && (lfD 19 (.str z) && true))) by simp only [lfD,a9J];rfl,x]
  decide +kernel
 ·have e1:(D.str "Lacks").py.bulk=5:=by decide +kernel
  have h1:(D.tup [.str "Lacks",.str z]).py.bulk≤2 * (8 + 1):=a6J fun d hd=>by
   rcases zau.mp hd with rfl | hd
   ·omega
   ·rw [zaj.mp hd];omega
  omega
theorem a2a {i:Int} (h0:0≤i) (h1:i < 100):Plain (.tup [.str "Wrong",.int i]):=by
 obtain ⟨i,rfl⟩:=Int.eq_ofNat_of_zero_le h0
 exact a2y (by
 simp only [lfD,a9J,zak,zah]
 refine ⟨by decide,⟨by decide,by decide +kernel⟩,?_,trivial⟩
 have:(10:Nat) ^ 12=1000000000000:=by decide
 omega) (by simp only [D.py,D.pys,PyData.bulk,PyData.bulkAll];decide)
theorem MW.grow {S S':SS} {M e:Addr} {f:List Str} {w:Wo} (h:MW S M e f w) (g:Grows S S'):MW S' M e f w:=⟨h.Me,g.at_ h.M,g.at_ h.e⟩
theorem a1V.grow {C L a b c d:Addr} {S S':SS} {t:Lay} (h:a1V C S L a b c d t) (g:Grows S S'):a1V C S' L a b c d t:=⟨h.s.grow g,h.ab,h.ac,h.ad,h.bc,h.bd,h.cd⟩
def putIn (zs:List Str) (i:Nat) (z:Str):List Str:=zs.take i ++ [z] ++ zs.drop i
theorem a3C {zs:List Str} {i:Nat} {z y:Str}:y∈putIn zs i z↔y∈zs∨y=z:=by
 unfold putIn
 rw [List.append_assoc,zap,zap,zaj]
 constructor
 ·rintro (h | h | h)
  ·exact .inl (List.mem_of_mem_take h)
  ·exact .inr h
  ·exact .inl (List.mem_of_mem_drop h)
 ·rintro (h | h)
  ·rw [← List.take_append_drop i zs] at h
   rcases zap.mp h with h | h
   ·exact .inl h
   ·exact .inr (.inr h)
  ·exact .inr (.inl h)
theorem a9e {zs:List Str} {i:Nat} {z:Str}:(putIn zs i z).length=zs.length + 1:=by
 unfold putIn
 rw [zaw,zaw,List.length_take,List.length_drop,List.length_singleton]
 omega
theorem b0v {zs:List Str} {i:Nat} {z:Str} (u:zs.Nodup) (h:z∉zs):(putIn zs i z).Nodup:=by
 have p:(putIn zs i z).Perm (z :: zs):=by
  unfold putIn
  rw [List.append_assoc]
  refine (List.perm_append_comm_assoc _ _ _).trans ?_
  rw [List.take_append_drop]
  exact List.Perm.refl _
 exact p.nodup_iff.mpr (zbd.mpr ⟨h,u⟩)
def b0o:List D:=[.non,.int 5,.str "a",.tup [.str "a"],.lst [.str "a",.str "a"],.lst [.str "b",.int 7],.lst [.str "A"],.lst [.str ""],.lst [.str "abcdefghi"],.lst [.bl true],.dic [(.inr "a",.int 1)]]
theorem b2u:∀ x∈b0o,Dtt x∧¬ a2g x:=by
 intro x hx
 have one:∀ {z:Str},¬ Nm z→¬ a2g (.lst [.str z]):=fun {z} h ⟨ws,e,_,nm,_⟩=>by
  have e:[z]=ws:=a1D e
  subst e
  exact h (nm z (by simp))
 have st:∀ {z:Str},z.length≤100000→fine z=true→Dtt (.str z):=fun h f=>.str _ h f
 simp only [b0o,zau,zba,or_false] at hx
 rcases hx with rfl | rfl | rfl | rfl | rfl | rfl | rfl | rfl | rfl | rfl | rfl
 ·exact ⟨.non,fun ⟨_,e,_⟩=>nomatch e⟩
 ·exact ⟨.int _,fun ⟨_,e,_⟩=>nomatch e⟩
 ·exact ⟨st (by decide +kernel) (by decide +kernel),fun ⟨_,e,_⟩=>nomatch e⟩
 ·exact ⟨.tup _ fun d hd=>by rw [zaj.mp hd];exact st (by decide +kernel) (by decide +kernel),fun ⟨_,e,_⟩=>nomatch e⟩
 ·refine ⟨.lst _ fun d hd=>?_,fun ⟨ws,e,u,_⟩=>?_⟩
  ·have:d=.str "a" := by simpa using hd
   rw [this]
   exact st (by decide +kernel) (by decide +kernel)
  ·have e:(["a", "a"]:List Str)=ws:=a1D e
   subst e
   simp at u
 ·refine ⟨.lst _ fun d hd=>?_,fun ⟨ws,e,_⟩=>?_⟩
  ·rcases zau.mp hd with rfl | hd
   ·exact st (by decide +kernel) (by decide +kernel)
   ·rw [zaj.mp hd]
    exact .int _
  ·match ws,e with
   | [],e=>simp at e
   | [_],e=>simp at e
   | _ :: _ :: _,e=>simp at e
 ·exact ⟨.lst _ fun d hd=>by rw [zaj.mp hd];exact st (by decide +kernel) (by decide +kernel),one fun h=>absurd (h.2.2 65 (by decide +kernel)).1 (by decide)⟩
 ·exact ⟨.lst _ fun d hd=>by rw [zaj.mp hd];exact st (by decide +kernel) (by decide +kernel),one fun h=>absurd h.2.1 (by decide +kernel)⟩
 ·exact ⟨.lst _ fun d hd=>by rw [zaj.mp hd];exact st (by decide +kernel) (by decide +kernel),one fun h=>absurd h.1 (by decide +kernel)⟩
 ·refine ⟨.lst _ fun d hd=>by rw [zaj.mp hd];exact .bl _,fun ⟨ws,e,_⟩=>?_⟩
  match ws,e with
  | [],e=>simp at e
  | _ :: _,e=>simp at e
 ·exact ⟨.dic _,fun ⟨_,e,_⟩=>nomatch e⟩
def b6E:D→D
 | .str z=>.str (z.append "qq")
 | d=>d
def b6D:D→D
 | .str z=>.str (Str.append "q" z)
 | d=>d
theorem a3w:∀ c∈("abcdefghijklmnopqrstuvwxyz" : Str).cps.toList,fine ((⟨#[c]⟩:Str).append "qq")=true∧fine (Str.append "q" (⟨#[c]⟩:Str))=true∧fine (⟨#[c]⟩:Str)=true:=by decide +kernel
theorem b2f:∀ d∈(a0x ("abcdefghijklmnopqrstuvwxyz" : Str)).map b6E ++ (a0x ("abcdefghijklmnopqrstuvwxyz" : Str)).map b6D ++ a0x ("abcdefghijklmnopqrstuvwxyz" : Str),Dtt d:=by
 intro d hd
 have one:∀ c:Nat,(⟨#[c]⟩:Str).length≤100000:=fun c=>by show 1≤100000;decide
 have two:∀ c:Nat,((⟨#[c]⟩:Str).append "qq").length≤100000:=fun c=>by show 1 + 2≤100000;decide
 have tre:∀ c:Nat,(Str.append "q" (⟨#[c]⟩:Str)).length≤100000:=fun c=>by show 1 + 1≤100000;decide
 rcases zap.mp hd with hd | hd
 ·rcases zap.mp hd with hd | hd
  ·obtain ⟨x,hx,rfl⟩:=zan.mp hd
   obtain ⟨c,hc,rfl⟩:=zan.mp hx
   exact .str _ (two c) (a3w c hc).1
  ·obtain ⟨x,hx,rfl⟩:=zan.mp hd
   obtain ⟨c,hc,rfl⟩:=zan.mp hx
   exact .str _ (tre c) (a3w c hc).2.1
 ·obtain ⟨c,hc,rfl⟩:=zan.mp hd
  exact .str _ (one c) (a3w c hc).2.2
theorem b3W {G:Gm} {δ:DS} {S:SS} {Y:XD'} {KK:DK} (k:KK (.dic [(.inr "a",.int 1)]) S):den G (.dct false (.cons (.con (.str "a")) (.con (.int 1)) .nil)) δ S Y KK:=b1w fun p free=>by
 rw [a4U]
 refine b4b ?_
 refine b3X ?_
 rw [a4U]
 refine ⟨zab,[(.inr "a",.int 1)],rfl,by decide,?_⟩
 rw [if_neg zbe,zaf free]
 exact k
theorem c2Y (c:SaysX fa fn fx K):Meets ((tb K).sn N28) ((tb K).G K 28) 2 false a5U b28:=by
 refine Qt.put_in ?_
 simp (disch :=
 with_unfolding_all
 refine Qt.keep ?_
 rintro m hm ds S KK Y ⟨rfl,b,c0,zs,rfl,zl,zn,hb,hc,hK⟩
 refine ⟨rfl,?_⟩
 show a0c _ b28 [some _,some _,none,none,none,none,none] _ _ _
 unfold b28
 lia
 refine b3W ?_
 lia
 refine a0a (T:=a0v) rfl ?_
 lia
 refine ⟨rfl,b,4,c0,rfl,by decide,by decide,hb,hc,fun u c1 u0 u1 hc1=>?_⟩
 lia
 refine a0a (T:=a0v) rfl ?_
 lia
 refine ⟨rfl,b,_,c1,rfl,by rw [zag];omega,lg (by rw [zag];omega) (by rw [zag];omega),zab,hc1,fun v c2 v0 v1 hc2=>?_⟩
 rw [zag] at v1
 rw [zac]
 obtain ⟨v,rfl⟩:=Int.eq_ofNat_of_zero_le v0
 lia
 by_cases e0:u=0
 ·rw [if_pos (zbg e0)]
  lia
  refine a3u b6E (fun _=>true) (by rw [zai];decide +kernel) (fun _ _ _=>trivial) (fun p i acc d K1 KN hd hp hk hn=>?_) ?_
  ·unfold a0x at hd
   rw [zbh,zam] at hd
   obtain ⟨cc,_,rfl⟩:=hd
   refine a2G (a9S ?_)
   rw [if_pos rfl]
   show den _ _ [some _,some _,some _,some _,some _,some _,some (.str ⟨#[cc]⟩)] _ _ _
   lia
   refine a7b (by rw [zai];show 1 + 2≤16777216;decide) ?_
   exact hk rfl
  lia
  refine a3u b6D (fun _=>true) (by rw [zai];decide +kernel) (fun _ _ _=>trivial) (fun p i acc d K1 KN hd hp hk hn=>?_) ?_
  ·unfold a0x at hd
   rw [zbh,zam] at hd
   obtain ⟨cc,_,rfl⟩:=hd
   refine a2G (a9S ?_)
   rw [if_pos rfl]
   show den _ _ [some _,some _,some _,some _,some _,some _,some (.str ⟨#[cc]⟩)] _ _ _
   lia
   refine a7b (by rw [zai];show 1 + 1≤16777216;decide) ?_
   exact hk rfl
  rw [zbc.mpr (fun _ _=>rfl)]
  refine a2w (by rw [zag,zag,zai];decide +kernel) ?_
  lia
  refine ⟨_,rfl,by rw [zai];decide +kernel,?_⟩
  unfold outL
  rw [if_neg zbe]
  refine a2w (by rw [zaw,zag,zag,zag,zai];decide +kernel) ?_
  lia
  rw [show (61:Int)=((61:Nat):Int) from rfl,a2Z]
  refine hK _ c2 (.lst _ fun d hd=>?_) (fun ⟨ws,e,_,_,l⟩=>?_) hc2
  ·exact b2f d (List.mem_of_mem_take hd)
  ·have e:=congrArg (fun d=>match d with | D.lst l=>l.length | _=>0) e
   have e:(((a0x ("abcdefghijklmnopqrstuvwxyz" : Str)).map b6E ++ (a0x ("abcdefghijklmnopqrstuvwxyz" : Str)).map b6D ++ a0x ("abcdefghijklmnopqrstuvwxyz" : Str)).take 61).length=(ws.map D.str).length:=e
   rw [zag,show (((a0x ("abcdefghijklmnopqrstuvwxyz" : Str)).map b6E ++ (a0x ("abcdefghijklmnopqrstuvwxyz" : Str)).map b6D ++ a0x ("abcdefghijklmnopqrstuvwxyz" : Str)).take 61).length=61 by decide +kernel] at e
   omega
 rw [if_neg (by rw [zah];exact e0)]
 lia
 by_cases e1:u=1
 ·rw [if_pos (zbg e1)]
  lia
  rw [a2Z,← List.map_take]
  refine a2w (by rw [zag,List.length_take,zai];show _ + 1≤_;omega) ?_
  lia
  rw [a2Y (by rw [zag];omega),← List.map_drop]
  refine a2w (by rw [zaw,zag,zag,List.length_take,List.length_drop,zai];show _ + 1 + _≤_;omega) ?_
  have e:(zs.take v).map D.str ++ [D.str "B"] ++ (zs.drop v).map D.str=(putIn zs v "B").map D.str:=by
   unfold putIn
   simp
  rw [e]
  refine hK _ c2 (.lst _ fun d hd=>?_) (fun ⟨ws,e,_,nm,_⟩=>?_) hc2
  ·obtain ⟨y,hy,rfl⟩:=zan.mp hd
   rcases a3C.mp hy with hy | rfl
   ·exact Dtt.nm (zn y hy)
   ·exact .str _ (by decide +kernel) (by decide +kernel)
  ·have e:putIn zs v "B" = ws:=a1D e
   subst e
   exact absurd ((nm "B" (a3C.mpr (.inr rfl))).2.2 66 (by decide +kernel)).1 (by decide)
 rw [if_neg (by rw [zah];exact e1)]
 lia
 refine a0a (T:=a0v) rfl ?_
 lia
 refine ⟨rfl,b,11,c2,rfl,by decide,by decide,zab,hc2,fun k c3 k0 k1 hc3=>?_⟩
 rw [zac]
 obtain ⟨k,rfl⟩:=Int.eq_ofNat_of_zero_le k0
 have hk:k < b0o.length:=by show k < 11;omega
 obtain ⟨h1,h2⟩:=b2u _ (List.getElem_mem hk)
 refine a3V (d:=b0o[k]) (atI_nat (zbi hk)) ?_
 exact hK _ c3 h1 h2 hc3
 ) only [↓Qt.put_off]
theorem b04 {p:Str→Bool} {zs:List Str} {i:Nat} {z:Str} (h:∀ y∈zs.take i,p y=false) (hz:zs[i]?=some z) (h1:p z=false):∀ y∈zs.take (i + 1),p y=false:=fun y hy=>by
 rw [List.take_add_one,hz] at hy
 rcases zap.mp hy with hy | hy
 ·exact h y hy
 ·cases zaj.mp hy
  exact h1
theorem b5v {a b c d:D} {u:Int} (h0:0≤u) (h1:u < 4):∃ n,atI [a,b,c,d] u=some n∧(n=a∨n=b∨n=c∨n=d):=by
 obtain rfl | rfl | rfl | rfl:u=0∨u=1∨u=2∨u=3:=by omega
 all_goals exact ⟨_,rfl,by simp⟩
theorem b3f.lay {g M e L a b c d q:Addr} (h:b3f g M e L a b c d) (hq:q=M∨q=e∨q=g):q≠L∧q≠a∧q≠b∧q≠c∧q≠d:=by
 have:∀ r∈[L,a,b,c,d],q≠r:=fun r hr=>by
  rcases hq with rfl | rfl | rfl
  ·exact (h.M r hr).symm
  ·exact (h.e r hr).symm
  ·exact (h.g r hr).symm
 exact ⟨this L (by simp),this a (by simp),this b (by simp),this c (by simp),this d (by simp)⟩
theorem MW.lay {S:SS} {g M e q L a b c d:Addr} {dr:List Str} {w:Wo} {x:Cell} (h:MW S M e dr w) (ap:b3f g M e L a b c d) (hq:q∈[L,a,b,c,d]):MW (S.set q x) M e dr w :=
 ⟨h.Me,by rw [zaa (ap.M q hq).symm];exact h.M,by rw [zaa (ap.e q hq).symm];exact h.e⟩
theorem a5d {w:Wo} {z:Str} (h:z∈nms w.lines):due w.lay (.takeL z)=none:=by
 show (if z∈nms w.lines then none else some (Rf.lacks z))=none
 rw [if_pos h]
theorem a92 {w:Wo} {z x y:Str} {k:Int} (h1:z∉nms w.lines) (h2:z∉nms w.drains) (hx:x∈w.rooms) (hy:y∈w.rooms) (few:w.lines.length < 40):due w.lay (.line z x y k)=none:=by
 show (if z∈nms w.lines∨z∈nms w.drains then some (Rf.there z) else (a0A w.lay [x,y]).or (if w.lines.length=40 then some (.many 40) else none))=none
 have rm:∀ {z:Str},z∈w.rooms→z∈nms w.lay.rooms:=fun {z} hz=>by show _∈nms (units _);rw [a0j];exact hz
 rw [if_neg (fun h=>h.elim h1 h2)]
 simp only [a0A,if_pos (rm hx),if_pos (rm hy),if_neg (show ¬ w.lines.length=40 by omega),Option.none_or]
theorem b02 {n:Nat} {ds:List D} (h:∀ d∈ds,lfD n d=true):lfD (n + 1) (.lst ds)=true:=by
 simp only [lfD,zak,zah]
 exact ⟨Nat.succ_pos _,a3c h⟩
theorem b46 {n:Nat} {ds:List D} (h:∀ d∈ds,lfD n d=true):lfD (n + 1) (.tup ds)=true:=by
 simp only [lfD,zak,zah]
 exact ⟨Nat.succ_pos _,a3c h⟩
theorem b45 {n:Nat} {i:Int} (h:0≤i) (h1:i≤99):lfD n (.int i)=true:=by
 simp only [lfD,zah]
 have e:(10:Nat) ^ 12=1000000000000:=by decide
 omega
def lineOf (w:Wo) (z:Str):D:=match w.lines.lookup z with
 | some q=>fL q
 | none=>.non
def b0h (w:Wo):D→D
 | .str z=>lineOf w z
 | d=>d
theorem a5r {w:Wo} (ok:a2f w) {z:Str} (hz:z∈nms w.lines):lfD 18 (lineOf w z)=true∧(lineOf w z).py.bulk≤60:=by
 obtain ⟨⟨x,y,k⟩,hq⟩:=a1K hz
 obtain ⟨_,rx,ry,_,k0,k1⟩:=ok.ln _ (a2s hq)
 unfold lineOf
 rw [hq]
 constructor
 ·refine b46 fun d hd=>?_
  rcases zau.mp hd with rfl | hd
  ·exact a6W (ok.rn _ rx)
  rcases zau.mp hd with rfl | hd
  ·exact a6W (ok.rn _ ry)
  ·rw [zaj.mp hd];exact b45 k0 k1
 ·have h1:=a2X (ok.rn _ rx)
  have h2:=a2X (ok.rn _ ry)
  have h3:(D.int k).py.bulk≤8:=by simp only [D.py,PyData.bulk];omega
  have:(D.tup [.str x,.str y,.int k]).py.bulk≤3 * (8 + 1):=a6J fun d hd=>by
   rcases zau.mp hd with rfl | hd
   ·exact h1
   rcases zau.mp hd with rfl | hd
   ·exact h2
   ·rw [zaj.mp hd];exact h3
  exact Nat.le_trans this (by decide)
theorem a5q {w:Wo} {zs:List Str}:((zs.map D.str).filter fun _=>true).map (b0h w)=zs.map (lineOf w):=by
 rw [zbc.mpr fun _ _=>rfl,zat]
 rfl
def b3b (w:Wo):D:=.lst [.lst ((a0i w.rooms).map D.str),.lst ((a0i (nms w.lines)).map D.str),.lst ((a0i (nms w.drains)).map D.str),.lst ((a0i w.srcs).map D.str),.lst ((a0i (nms w.lines)).map (lineOf w))]
theorem b6r {w:Wo} (ok:a2f w):Plain (b3b w):=by
 have ll:=ok.l
 have lr:=ok.r
 have ld:=ok.d
 have ls:=a2p ok.su ok.s
 have n1:∀ z∈a0i w.rooms,Nm z:=fun z hz=>ok.rn z (a0S.mp hz)
 have n2:∀ z∈a0i (nms w.lines),Nm z:=fun z hz=>by
  obtain ⟨q,hq,rfl⟩:=zan.mp (a0S.mp hz)
  exact (ok.ln q hq).1
 have n3:∀ z∈a0i (nms w.drains),Nm z:=fun z hz=>by
  obtain ⟨q,hq,rfl⟩:=zan.mp (a0S.mp hz)
  exact (ok.dn q hq).1
 have n4:∀ z∈a0i w.srcs,Nm z:=fun z hz=>ok.rn z (ok.s z (a0S.mp hz))
 have b1:=a2m n1
 have b2:=a2m n2
 have b3:=a2m n3
 have b4:=a2m n4
 rw [a4N] at b1 b2 b3 b4
 rw [a1i] at b2 b3
 have b5:(D.lst ((a0i (nms w.lines)).map (lineOf w))).py.bulk≤((a0i (nms w.lines)).map (lineOf w)).length * (60 + 1):=a4s fun d hd=>by
  obtain ⟨z,hz,rfl⟩:=zan.mp hd
  exact (a5r ok (a0S.mp hz)).2
 rw [zag,a4N,a1i] at b5
 have all:∀ {P:D→Prop},P (.lst ((a0i w.rooms).map D.str))→P (.lst ((a0i (nms w.lines)).map D.str))→P (.lst ((a0i (nms w.drains)).map D.str))→P (.lst ((a0i w.srcs).map D.str))→P (.lst ((a0i (nms w.lines)).map (lineOf w)))→∀ d∈[D.lst ((a0i w.rooms).map D.str),.lst ((a0i (nms w.lines)).map D.str),.lst ((a0i (nms w.drains)).map D.str),.lst ((a0i w.srcs).map D.str),.lst ((a0i (nms w.lines)).map (lineOf w))],P d:=fun {P} h1 h2 h3 h4 h5 d hd=>by
  rcases zau.mp hd with rfl | hd
  ·exact h1
  rcases zau.mp hd with rfl | hd
  ·exact h2
  rcases zau.mp hd with rfl | hd
  ·exact h3
  rcases zau.mp hd with rfl | hd
  ·exact h4
  ·rw [zaj.mp hd];exact h5
 refine a2y (b02 (all (a4D (by decide) n1) (a4D (by decide) n2) (a4D (by decide) n3) (a4D (by decide) n4) (b02 fun d hd=>?_))) ?_
 ·obtain ⟨z,hz,rfl⟩:=zan.mp hd
  exact (a5r ok (a0S.mp hz)).1
 ·have:=a4s (b:=3000) (all (P:=fun d=>d.py.bulk≤3000) (by omega) (by omega) (by omega) (by omega) (by omega))
  exact Nat.le_trans this (show 5 * 3001≤266304 by decide)
def drW (w:Wo) (drs:List Str) (r:Str):Wo:={ w with drains:=drs.map fun z=>(z,r) }
theorem a8m {w:Wo} {drs:List Str} {r:Str}:nms (drW w drs r).drains=drs:=by
 unfold drW nms
 rw [zat]
 exact List.map_id' _
theorem a8o {w:Wo} {z r:Str} (h1:z∉nms w.lines) (h2:z∉nms w.drains) (hr:r∈w.rooms) (few:w.drains.length < 12):due w.lay (.drain z r)=none:=by
 show (if z∈nms w.lines∨z∈nms w.drains then some (Rf.there z) else (a0A w.lay [r]).or (if w.drains.length=12 then some (.many 12) else none))=none
 have rm:∀ {z:Str},z∈w.rooms→z∈nms w.lay.rooms:=fun {z} hz=>by show _∈nms (units _);rw [a0j];exact hz
 rw [if_neg (fun h=>h.elim h1 h2)]
 simp only [a0A,if_pos (rm hr),if_neg (show ¬ w.drains.length=12 by omega),Option.none_or]
def c1f (w:Wo):D→Bool
 | .str z=>!decide (z∈nms w.lines)
 | _=>false
theorem a7F {w:Wo} {zs:List Str}:(((zs.map D.str).filter (c1f w)).map id)=(zs.filter fun z=>!decide (z∈nms w.lines)).map D.str:=by
 rw [List.map_id,List.filter_map]
 rfl
variable {K:zbj}
theorem c23 (c:SaysX fa fn fx K):Meets ((tb K).sn N32) ((tb K).G K 32) 2 false (a3h K) b32:=by
 refine Qt.put_in ?_
 simp (disch :=
 with_unfolding_all
 refine Qt.keep ?_
 rintro m hm ds S KK Y ⟨rfl,L,a,b,c',d,w,xx,zs,rfl,hv,lay,wok,few,zn,hK⟩
 refine ⟨rfl,?_⟩
 show a0c _ b32 [some _,some _,none,none] _ _ _
 unfold b32
 have ok:=wok.ok
 have ll:=ok.l
 have nl:(nms w.lay.lines).length=w.lay.lines.length:=zag ..
 lia
 refine a5c (T:=a2j K fun st=>nms st.lines) rfl ?_
 lia
 refine a5x lay.L rfl ?_
 lia
 refine ⟨rfl,L,a,b,c',d,w.lay,rfl,lay,by show (nms w.lay.lines).length < 64;omega,?_⟩
 lia
 refine ⟨_,hv.vw,?_⟩
 refine ⟨fun i δ' S'=>∃ x,S'=S∧δ'=[some (.obj L),some xx,some (.lst ((a0i (nms w.lay.lines)).map D.str)),x]∧∀ y∈zs.take i,a69 w y=false,⟨none,rfl,rfl,fun y h=>by simp at h⟩,fun _ _ _ h _=>(by obtain ⟨_,rfl,_⟩:=h;exact hv.vw),?_,?_⟩
 ·rintro i d0 δ' S' hd ⟨x,rfl,rfl,sofar⟩
  rw [zbh,zam] at hd
  obtain ⟨z,hzi,rfl⟩:=hd
  have nz:=zn z (zaq hzi)
  have lack:z∉a0r w→Y (He.ga K "Lacks") [("name",.str z)] S':=fun h=>by
   rw [a6f sofar hzi (by unfold a69;rw [zbf h];rfl)] at hK
   exact hK
  refine a2G ?_
  lia
  refine b88 nz.fine (fun w hw=>(ok.line (a0S.mp hw)).fine) ?_
  lia
  by_cases mz:z∈nms w.lay.lines
  ·obtain ⟨q,hq⟩:=a1K mz
   rw [if_neg (by simpa using a0S.mpr mz)]
   lia
   refine a5c (T:=a76 K) rfl ?_
   lia
   refine a5x lay.L rfl ?_
   lia
   refine ⟨rfl,L,a,b,c',d,w.lay,z,q,rfl,nz,lay,hq,?_⟩
   lia
   refine b1V (d:=.int q.2.2) rfl ?_
   lia
   by_cases h0:q.2.2=0
   ·rw [if_pos (by rw [zah];exact h0)]
    try rw [if_pos rfl]
    lia
    exact a1C rfl rfl rfl (by lia;exact ⟨_,rfl,lack fun h=>(a7p wok hq).mp h h0⟩)
   ·rw [if_neg (by rw [zah];exact h0)]
    lia
    exact ⟨_,rfl,rfl,b04 sofar hzi (by unfold a69;rw [zbg ((a7p wok hq).mpr h0)];rfl)⟩
  ·rw [if_pos (by simpa using fun h=>mz (a0S.mp h))]
   try rw [if_pos rfl]
   lia
   have ns:z∉a0r w:=fun h=>by
    obtain ⟨_,q,e,_⟩:=a2c wok h
    exact mz (a1Y e)
   exact a1C rfl rfl rfl (by lia;exact ⟨_,rfl,lack ns⟩)
 ·rintro δ' S' ⟨x,rfl,rfl,all⟩
  rw [zag,List.take_length] at all
  rw [a8t all] at hK
  lia
  exact hK
 ) only [↓Qt.put_off]
def b1v (w:Wo):D→D
 | .str z=>.int (a03 w z)
 | d=>d
theorem a8i {w:Wo} {zs:List Str}:((zs.map D.str).filter fun _=>true).map (b1v w)=(zs.map (a03 w)).map D.int:=by
 rw [zbc.mpr fun _ _=>rfl,zat,zat]
 rfl
theorem c26 (c:SaysX fa fn fx K):Meets ((tb K).sn N35) ((tb K).G K 35) 2 false (a2i K) b35:=by
 refine Qt.put_in ?_
 simp (disch :=
 with_unfolding_all
 refine Qt.keep ?_
 rintro m hm ds S KK Y ⟨rfl,x1,x2,rfl,h⟩
 refine ⟨rfl,?_⟩
 show a0c _ b35 [some _,some _,none] _ _ _
 unfold b35
 rcases h with ⟨i,wr,d2,hY⟩ | ⟨L,a,b,c',d,w,zs,rfl,hv,lay,ok,nm,h⟩
 ·rcases wr with ⟨nl,rfl⟩ | ⟨⟨L,a,b,c',d,st,rfl,lay⟩,hn,rfl⟩
  ·lia
   refine a0a (T:=a5T K) rfl ?_
   lia
   refine a8C c nl ?_
   lia
   exact ⟨rfl,0,false,rfl,hY S a8y⟩
  ·lia
   refine a0a (T:=a5T K) rfl ?_
   lia
   refine a8B c lay ?_
   lia
   refine ⟨rfl,0,true,rfl,?_⟩
   lia
   refine a0a (T:=a5T K) rfl ?_
   lia
   refine a0a (T:=TOr a1u (TPA a2g)) rfl ?_
   lia
   refine Or.inr ⟨rfl,x2,rfl,d2,fun k S1 g hk=>?_⟩
   cases k with
   | true=>exact absurd (hk.mp rfl) hn
   | false =>
    lia
    exact ⟨rfl,1,false,rfl,hY S1 g⟩
 ·have bl:=nm.l
  lia
  refine a0a (T:=a5T K) rfl ?_
  lia
  refine a8B c lay ?_
  lia
  refine ⟨rfl,0,true,rfl,?_⟩
  lia
  refine a0a (T:=a5T K) rfl ?_
  lia
  refine a0a (T:=TOr a1u (TPA a2g)) rfl ?_
  lia
  refine Or.inl ⟨rfl,x2,zs,rfl,hv,nm.u,nm.n,bl,?_⟩
  lia
  refine ⟨rfl,1,true,rfl,?_⟩
  lia
  refine a0a (T:=a3h K) rfl ?_
  lia
  refine ⟨rfl,L,a,b,c',d,w,x2,zs,rfl,hv,lay,ok,by omega,nm.n,?_⟩
  cases e1:zs.find? (a69 w) with
  | some z =>
   rw [e1] at h
   exact h
  | none =>
   rw [e1] at h
   have all:∀ z∈zs,z∈a0r w:=fun z hz=>by
    have:=List.find?_eq_none.mp e1 z hz
    unfold a69 at this
    simpa using this
   lia
   refine ⟨_,hv.vw,?_⟩
   refine a3u (b1v w) (fun _=>true) (by rw [zag,zai];omega) (fun _ p hp=>(hv.set hp).vw) (fun p j acc d0 K1 KN hd hp hk hn=>?_) ?_
   ·rw [zbh,zam] at hd
    obtain ⟨z,hz,rfl⟩:=hd
    obtain ⟨nz,q,hq,_⟩:=a2c ok (all z (zaq hz))
    have hq:w.lines.lookup z=some q:=hq
    refine a2G (a9S ?_)
    rw [if_pos rfl]
    show den _ _ [some (.obj L),some x2,some (.str z)] _ _ _
    lia
    refine a5c (T:=a76 K) rfl ?_
    lia
    refine a5x (lay.grow (Grows.set hp)).L rfl ?_
    lia
    refine ⟨rfl,L,a,b,c',d,w.lay,z,q,rfl,nz,lay.grow (Grows.set hp),hq,?_⟩
    lia
    refine b1V (d:=.int q.2.2) rfl ?_
    rw [show D.int q.2.2=b1v w (.str z) by show _=D.int (a03 w z);unfold a03;rw [hq]]
    exact hk rfl
   rw [a8i]
   lia
   exact ⟨_,rfl,h⟩
 ) only [↓Qt.put_off]
theorem a7X.map {S:SS} {x1 x2:D} {W W':Int→Prop} {Lk Lk':Str→Prop} {T T':Int→Prop} (h:a7X K S x1 x2 W Lk T) (hW:∀ i,W i→W' i) (hL:∀ z,Lk z→Lk' z) (hT:∀ n,T n→T' n):a7X K S x1 x2 W' Lk' T':=by
 rcases h with ⟨i,h1,h2,h3⟩ | ⟨L,a,b,c',d,w,zs,e,hv,lay,ok,nm,h⟩
 ·exact .inl ⟨i,h1,h2,hW i h3⟩
 ·refine .inr ⟨L,a,b,c',d,w,zs,e,hv,lay,ok,nm,?_⟩
  cases e1:zs.find? (a69 w) with
  | some z=>rw [e1] at h;exact hL z h
  | none=>rw [e1] at h;exact hT _ h
theorem c28 (c:SaysX fa fn fx K):Meets ((tb K).sn N37) ((tb K).G K 37) 2 false (a1v K) b37:=by
 refine Qt.put_in ?_
 simp (disch :=
 with_unfolding_all
 refine Qt.keep ?_
 rintro m hm ds S KK Y ⟨rfl,x1,x2,rfl,h⟩
 refine ⟨rfl,?_⟩
 show a0c _ b37 [some _,some _,none,none] _ _ _
 unfold b37
 lia
 refine a5H (fun δ' S'=>∃ r,KK (.tup [.str "told",r]) S'∧δ'=[some x1,some x2,some r,none]) ?_ ?_
 ·lia
  refine a0a (T:=a2i K) rfl ?_
  lia
  refine ⟨rfl,x1,x2,rfl,h.map (fun i h S' g=>?_) (fun z h=>?_) (fun n h=>?_)⟩
  ·refine ⟨true,b0W (c.fact 21 rfl) (by decide +kernel),fun _ a oe=>?_,fun z=>nomatch z⟩
   lia
   refine a0a (T:=a4n K) rfl ?_
   lia
   refine ⟨a,oe,_,_,_,rfl,rfl,.inl ⟨rfl,rfl⟩,?_⟩
   lia
   exact h S' g
  ·refine ⟨true,b0W (c.fact 21 rfl) (by decide +kernel),fun _ a oe=>?_,fun z=>nomatch z⟩
   lia
   refine a0a (T:=a4n K) rfl ?_
   lia
   refine ⟨a,oe,_,_,_,rfl,rfl,.inr (.inl ⟨rfl,rfl⟩),?_⟩
   lia
   exact h
  ·exact ⟨_,h,rfl⟩
 ·rintro δ' S' ⟨r,h,rfl⟩
  lia
  exact h
 ) only [↓Qt.put_off]
theorem b0I {w:Wo} {zs:List Str} {z:Str}:a2T w (zs ++ [z])=a2T w zs + a03 w z:=by
 unfold a2T
 rw [zav,List.sum_append]
 simp
theorem c2I (c:SaysX fa fn fx K):Meets ((tb K).sn N12) ((tb K).G K 12) 2 false a6F b12:=by
 refine Qt.put_in ?_
 simp (disch :=
 with_unfolding_all
 refine Qt.keep ?_
 rintro m hm ds S KK Y ⟨rfl,M,e,dr,w,xx,zs,rfl,hv,mw,ok,nm,hK⟩
 refine ⟨rfl,?_⟩
 show a0c _ b12 [some _,some _,none,none] _ _ _
 unfold b12
 lia
 refine ⟨_,hv.vw,?_⟩
 refine ⟨fun i δ' S'=>∃ x,S'=S∧δ'=[some (.obj M),some xx,some (.int (a2T w (zs.take i))),x]∧∀ y∈zs.take i,a69 w y=false,⟨none,rfl,rfl,fun y h=>by simp at h⟩,fun _ _ _ h _=>(by obtain ⟨_,rfl,_⟩:=h;exact hv.vw),?_,?_⟩
 ·rintro i d0 δ' S' hd ⟨x,rfl,rfl,sofar⟩
  rw [zbh,zam] at hd
  obtain ⟨z,hzi,rfl⟩:=hd
  have nz:=nm.n z (zaq hzi)
  have lack:z∉a0r w→KK (.tup [.str "Lacks",.str z]) S':=fun h=>by
   unfold a6a at hK
   rw [a6f sofar hzi (by unfold a69;rw [zbf h];rfl)] at hK
   exact hK
  refine a2G ?_
  lia
  refine a2F mw.M rfl a0F ?_
  lia
  refine b2m mw.e rfl ?_
  rw [a1b]
  lia
  by_cases mz:z∈nms w.lines
  ·obtain ⟨q,hq⟩:=a1K mz
   have ec:q.2.2=a03 w z:=by unfold a03;rw [hq]
   rw [if_neg (by simpa using mz)]
   lia
   refine a2F mw.M rfl a0F ?_
   lia
   refine a2F mw.e rfl (by rw [a0O,hq];rfl) ?_
   lia
   refine b1V (d:=.int q.2.2) rfl ?_
   lia
   by_cases h0:q.2.2=0
   ·rw [if_pos (by rw [zah];exact h0)]
    try rw [if_pos rfl]
    lia
    exact lack fun h=>(a7p ok hq).mp h h0
   ·rw [if_neg (by rw [zah];exact h0)]
    lia
    refine b57 rfl ?_
    lia
    refine a2F mw.M rfl a0F ?_
    lia
    refine a2F mw.e rfl (by rw [a0O,hq];rfl) ?_
    lia
    refine b1V (d:=.int q.2.2) rfl ?_
    lia
    refine ⟨some (.str z),rfl,?_,b04 sofar hzi (by unfold a69;rw [zbg ((a7p ok hq).mpr h0)];rfl)⟩
    rw [show zs.take (i + 1)=zs.take i ++ [z] from take_snoc hzi,b0I,ec]
    rfl
  ·rw [if_pos (by simpa using mz)]
   try rw [if_pos rfl]
   lia
   refine lack fun h=>mz ?_
   obtain ⟨_,q,e,_⟩:=a2c ok h
   exact a1Y e
 rintro δ' S' ⟨x,rfl,rfl,all⟩
 rw [zag,List.take_length] at all ⊢
 lia
 unfold a6a at hK
 rw [a8t all] at hK
 exact hK
 ) only [↓Qt.put_off]
variable {K:zbj}
theorem c22 (c:SaysX fa fn fx K):Meets ((tb K).sn N31) ((tb K).G K 31) 2 false a4m b31:=by
 refine Qt.put_in ?_
 simp (disch :=
 with_unfolding_all
 refine Qt.keep ?_
 rintro m hm ds S KK Y ⟨rfl,b,c0,M,e,dr,w,rfl,hb,hc,mw,ok,hK⟩
 refine ⟨rfl,?_⟩
 show a0c _ b31 [some _,some _,none,none,none] _ _ _
 unfold b31
 have ll:=ok.l
 lia
 refine b1c mw.e ?_
 lia
 have M1:(S.set e (.loc (a0B fL w.lines))) M=some (.dic (mW w e dr)):=by rw [zaa mw.Me];exact mw.M
 refine a2F M1 rfl a0F ?_
 refine ⟨e,_,rfl,zab,?_⟩
 refine a3u id (swD w) (by rw [zag,a0D,zai];omega) (fun _ _ _=>trivial) (fun p i acc d K1 KN hd hp hk hn=>?_) ?_
 ·obtain ⟨q,rfl,hq⟩:=a8J hd
  have hq:=zaq hq
  have pM:M≠p:=zad M1 hp
  have pe:e≠p:=zad zab hp
  have el:swD w (.str q.1)=decide (0 < q.2.2.2):=by simp only [swD,a05 ok.lu hq]
  refine a2G (b8m ?_)
  show a0o _ _ [some _,some _,none,none,some _] _ _ _
  lia
  refine a2F (by rw [zaa pM];exact M1) rfl a0F ?_
  lia
  refine b80 (by rw [zaa pe];exact zab) rfl (by rw [a0O,a05 ok.lu hq];rfl) ?_
  lia
  refine b1V (d:=.int q.2.2.2) rfl ?_
  lia
  by_cases h:0 < q.2.2.2
  ·rw [if_pos (zbg h)]
   lia
   exact hk (el.trans (zbg h))
  ·rw [if_neg (by rw [zah];exact h)]
   exact hn (el.trans (zbf h))
 rw [b2Y ok]
 dsimp only [SE.unlock]
 rw [zac,SS.set_id mw.e]
 have sl:(a0r w).length≤40:=by
  unfold a0r nms
  rw [zag]
  exact Nat.le_trans (zbb _ _) ll
 have sn:∀ z∈a0r w,Nm z:=fun z hz=>(a2c ok hz).1
 have su:(a0r w).Nodup:=by
  unfold a0r nms
  exact ok.lu.sublist ((List.filter_sublist).map _)
 lia
 refine a0a (T:=a0v) rfl ?_
 lia
 refine ⟨rfl,b,4,c0,rfl,by decide,by decide,hb,hc,fun v c1 v0 v1 hc1=>?_⟩
 lia
 by_cases h0:v=0
 ·rw [if_pos (zbg h0)]
  lia
  refine ⟨_,rfl,?_⟩
  unfold outL
  rw [if_pos rfl,← List.map_reverse]
  intro q fq
  have fq:S q=none:=by
   have:b≠q:=zad zab fq
   rw [zaa this.symm] at fq
   exact fq
  exact hK (a0r w).reverse c1 q fq ((List.reverse_perm _).nodup_iff.mpr su) (fun z hz=>List.mem_reverse.mp hz) hc1
 rw [if_neg (by rw [zah];exact h0)]
 lia
 refine a0a (T:=a6G) rfl ?_
 lia
 obtain ⟨n,en,hn⟩:∃ n:Int,atI [D.int 0,.int 3,.int 12] (v - 1)=some (.int n)∧0≤n∧n≤12:=by
  obtain rfl | rfl | rfl:v=1∨v=2∨v=3:=by omega
  all_goals exact ⟨_,rfl,by decide,by decide⟩
 refine a3V en ?_
 lia
 refine ⟨rfl,b,c1,n,a0r w,rfl,by omega,by omega,by omega,sn,zab,hc1,fun ys c2 q fq ysub yu yl _ hc2=>?_⟩
 rw [zac]
 have fq:S q=none:=by
  have:b≠q:=zad zab fq
  rw [zaa this.symm] at fq
  exact fq
 lia
 exact hK ys c2 q fq yu ysub hc2
 ) only [↓Qt.put_off]
theorem c29 (c:SaysX fa fn fx K):Meets ((tb K).sn N38) ((tb K).G K 38) 3 false (a4q K) b38:=by
 refine Qt.put_in ?_
 simp (disch :=
 with_unfolding_all
 refine Qt.keep ?_
 rintro m hm ds S KK Y ⟨rfl,g,c0,L,a,b,c',d,w,zs,rfl,hg,hc0,lay,ok,nm,hK⟩
 refine ⟨rfl,?_⟩
 show a0c _ b38 [some _,some _,some _,none,none,none] _ _ _
 unfold b38
 have bl:=nm.l
 lia
 refine a0a (T:=a0v) rfl ?_
 lia
 refine ⟨rfl,g,3,c0,rfl,by decide,by decide,hg,hc0,fun u c1 u0 u1 hc1=>?_⟩
 lia
 refine a0a (T:=a0v) rfl ?_
 lia
 refine ⟨rfl,g,4,c1,rfl,by decide,by decide,zab,hc1,fun v c2 v0 v1 hc2=>?_⟩
 rw [zac]
 obtain ⟨y,ey,hy⟩:=b5v (a:=.non) (b:=.int 5) (c:=.str "a") (d:=.lst []) v0 v1
 have hy:a80 y:=hy
 refine a3V ey ?_
 lia
 refine a0a (T:=a5U) rfl ?_
 lia
 refine ⟨rfl,g,c2,zs,rfl,by omega,nm.n,zab,hc2,fun x c3 dx nx hc3=>?_⟩
 rw [zac]
 have lay3:a2e (lc K) (S.set g c3) L a b c' d w.lay:=lay.bag hg hc0
 have fin:∀ S4,Grows (S.set g c3) S4→KK (.bl true) S4:=fun S4 g4=>hK c3 S4 hc3 (g4.at_ zab) fun q hq h=>by
  have h3:(S.set g c3) q≠none:=by rw [zaa hq];exact h
  rw [g4 q h3,zaa hq]
 lia
 by_cases h0:u=0
 ·rw [if_pos (zbg h0)]
  lia
  refine a0a (T:=a1v K) rfl ?_
  lia
  refine ⟨rfl,y,_,rfl,.inl ⟨0,.inl ⟨hy,rfl⟩,Dtt.strs nm.n,fun S4 g4=>?_⟩⟩
  lia
  refine a9R (a2a (by decide) (by decide)) ?_
  exact fin S4 g4
 rw [if_neg (by rw [zah];exact h0)]
 lia
 by_cases h1:u=1
 ·rw [if_pos (zbg h1)]
  lia
  refine a0a (T:=a1v K) rfl ?_
  lia
  refine ⟨rfl,_,x,rfl,.inl ⟨1,.inr ⟨⟨L,a,b,c',d,_,rfl,lay3⟩,nx,rfl⟩,dx,fun S4 g4=>?_⟩⟩
  lia
  refine a9R (a2a (by decide) (by decide)) ?_
  exact fin S4 g4
 rw [if_neg (by rw [zah];exact h1)]
 lia
 refine a0a (T:=a1v K) rfl ?_
 lia
 refine ⟨rfl,y,x,rfl,.inl ⟨0,.inl ⟨hy,rfl⟩,dx,fun S4 g4=>?_⟩⟩
 lia
 refine a9R (a2a (by decide) (by decide)) ?_
 exact fin S4 g4
 ) only [↓Qt.put_off]
theorem b5u {u t:Int} (h0:0≤u) (h1:u < 3) (t0:0≤t) (t1:t < 100):∃ n:Int,atI [D.int 0,.int 1,.int t] u=some (.int n)∧0≤n∧n≤99:=by
 obtain rfl | rfl | rfl:u=0∨u=1∨u=2:=by omega
 ·exact ⟨0,rfl,by decide,by decide⟩
 ·exact ⟨1,rfl,by decide,by decide⟩
 ·exact ⟨t,rfl,t0,by omega⟩
theorem c27 (c:SaysX fa fn fx K):Meets ((tb K).sn N36) ((tb K).G K 36) 4 false (a3k K) b36:=by
 refine Qt.put_in ?_
 simp (disch :=
 with_unfolding_all
 refine Qt.keep ?_
 rintro m hm ds S KK Y ⟨rfl,g,c0,L,a,b,c',d,M,e,dr,w,z,rfl,hg,hc0,lay,mw,ap,ok,nz,hK⟩
 refine ⟨rfl,?_⟩
 show a0c _ b36 [some _,some _,some _,some _,none,none,none] _ _ _
 unfold b36
 have ll:=ok.l
 have gM:M≠g:=hc0.nd hg mw.M
 have ge:e≠g:=hc0.nd hg mw.e
 lia
 refine a2F mw.M rfl a0F ?_
 lia
 refine b1O mw.e rfl ?_
 rw [a1b]
 lia
 by_cases mz:z∈nms w.lines
 ·rw [if_pos (zbg mz)]
  obtain ⟨⟨x,y,k⟩,hq⟩:=a1K mz
  have mq:=a2s hq
  obtain ⟨_,rx,ry,nxy,k0,k1⟩:=ok.ln _ mq
  lia
  refine a4Q rfl ?_
  lia
  refine a2F mw.M rfl a0F ?_
  lia
  refine ⟨c1i mw.e,?_⟩
  lia
  refine b0V mw.e rfl (by rw [a0O,hq];rfl) ?_
  rw [a5t]
  refine ⟨_,rfl,rfl,?_⟩
  show a0c _ _ [some (.obj g),some (.obj L),some (.obj M),some (.str z),some (.str x),some (.str y),some (.int k)] _ _ _
  have ok2:=ok.doWo (e:=.takeL z) nz (a5d mz)
  obtain ⟨q1,q2,q3,q4,q5⟩:=ap.lay (q:=e) (.inr (.inl rfl))
  have layA:=lay.off (x:=.dic (a0B fL (without w.lines z))) q1 q2 q3 q4 q5
  have mwA:MW (S.set e (.dic (a0B fL (without w.lines z)))) M e dr (doWo w (.takeL z)):=⟨mw.Me,by rw [zaa mw.Me];exact mw.M,zab⟩
  have hgA:(S.set e (.dic (a0B fL (without w.lines z)))) g=some c0:=by rw [zaa ge.symm];exact hg
  have rest:∀ q,q≠g→q≠e→q≠b→(S.set e (.dic (a0B fL (without w.lines z)))) q=S q:=fun q _ h _=>zaa h
  generalize S.set e (.dic (a0B fL (without w.lines z)))=SA at layA mwA hgA rest ⊢
  lia
  refine a5c (T:=a3j K) rfl ?_
  lia
  refine a5x layA.s.L rfl ?_
  lia
  refine ⟨rfl,L,a,b,c',d,_,z,rfl,nz,layA.s,?_⟩
  rw [a5d mz]
  show Ends _ none _ _ _
  unfold Ends
  dsimp only
  have layB:a1V (lc K) (SA.set b (.dic (a0B fL (without w.lay.lines z)))) L a b c' d (doWo w (.takeL z)).lay:=by
   rw [a4v]
   exact layA.lines _
  have mwB:=mwA.lay (x:=.dic (a0B fL (without w.lay.lines z))) ap (q:=b) (by simp)
  have hgB:(SA.set b (.dic (a0B fL (without w.lay.lines z)))) g=some c0:=by rw [zaa (ap.g b (by simp)).symm];exact hgA
  have rest:∀ q,q≠g→q≠e→q≠b→(SA.set b (.dic (a0B fL (without w.lay.lines z)))) q=S q:=fun q h1 h2 h3=>by rw [zaa h3];exact rest q h1 h2 h3
  generalize SA.set b (.dic (a0B fL (without w.lay.lines z)))=SB at layB mwB hgB rest ⊢
  clear layA mwA hgA
  lia
  refine a0a (T:=a0v) rfl ?_
  lia
  refine ⟨rfl,g,4,c0,rfl,by decide,by decide,hgB,hc0,fun t c1 t0 t1 hc1=>?_⟩
  have layB:=layB.bag (x':=c1) hgB hc0
  have mwB:=mwB.bag (c':=c1) hgB hc0
  have rest:∀ q,q≠g→q≠e→q≠b→(SB.set g c1) q=S q:=fun q h1 h2 h3=>by rw [zaa h1];exact rest q h1 h2 h3
  have hgB:(SB.set g c1) g=some c1:=zab
  generalize SB.set g c1=SC at layB mwB hgB rest ⊢
  lia
  by_cases ht:0 < t
  ·rw [if_pos (zbg ht)]
   lia
   refine a0a (T:=a0v) rfl ?_
   lia
   refine ⟨rfl,g,100,c1,rfl,by decide,by decide,hgB,hc1,fun r c2 r0 r1 hc2=>?_⟩
   have layB:=layB.bag (x':=c2) hgB hc1
   have mwB:=mwB.bag (c':=c2) hgB hc1
   have rest:∀ q,q≠g→q≠e→q≠b→(SC.set g c2) q=S q:=fun q h1 h2 h3=>by rw [zaa h1];exact rest q h1 h2 h3
   have hgB:(SC.set g c2) g=some c2:=zab
   generalize SC.set g c2=SD at layB mwB hgB rest ⊢
   lia
   refine a0a (T:=a0v) rfl ?_
   lia
   refine ⟨rfl,g,3,c2,rfl,by decide,by decide,hgB,hc2,fun v c3 v0 v1 hc3=>?_⟩
   have layB:=layB.bag (x':=c3) hgB hc2
   have mwB:=mwB.bag (c':=c3) hgB hc2
   have rest:∀ q,q≠g→q≠e→q≠b→(SD.set g c3) q=S q:=fun q h1 h2 h3=>by rw [zaa h1];exact rest q h1 h2 h3
   have hgB:(SD.set g c3) g=some c3:=zab
   generalize SD.set g c3=SE at layB mwB hgB rest ⊢
   obtain ⟨kk,ek,kk0,kk1⟩:=b5u v0 v1 r0 r1
   refine a3V ek ?_
   lia
   refine a2F mwB.M rfl a0F ?_
   lia
   have off:z∉nms (without w.lines z):=fun h=>(a6m.mp h).2 rfl
   refine a5F mwB.e rfl (by rw [a0D,zai];have:(doWo w (.takeL z)).lines.length≤w.lines.length:=a2d;omega) ?_
   rw [show (D.tup [.str y,.str x,.int kk])=fL (y,x,kk) from rfl,show (doWo w (.takeL z)).lines=without w.lines z from rfl,a06 off]
   have ed:(a6D.line z y x kk).Ok:=⟨nz,ok.rn _ ry,ok.rn _ rx,fun h=>nxy h.symm,kk0,kk1⟩
   have dl:due (doWo w (.takeL z)).lay (.line z y x kk)=none:=a92 off (fun h=>ok.ld z mz h) ry rx (by
    have h1:(nms (without w.lines z)).length < (nms w.lines).length:=by
     rw [a1n]
     exact Nat.lt_of_le_of_ne (zbb _ _) fun h=>by
      have:=List.length_filter_eq_length_iff.mp h z mz
      simp at this
    rw [a1i,a1i] at h1
    show (without w.lines z).length < 40
    omega)
   have ok3:=ok2.doWo ed dl
   have lk:(without w.lines z ++ [(z,y,x,kk)]).lookup z=some (y,x,kk):=a05 ok3.lu (q:=(z,y,x,kk)) (zas _ zal)
   have layD':=layB.off (x:=.dic (a0B fL (without w.lines z ++ [(z,y,x,kk)]))) q1 q2 q3 q4 q5
   have mwD:MW (SE.set e (.dic (a0B fL (without w.lines z ++ [(z,y,x,kk)])))) M e dr (doWo (doWo w (.takeL z)) (.line z y x kk)):=⟨mw.Me,by rw [zaa mw.Me];exact mwB.M,zab⟩
   have hgD:(SE.set e (.dic (a0B fL (without w.lines z ++ [(z,y,x,kk)])))) g=some c3:=by rw [zaa ge.symm];exact hgB
   have rest:∀ q,q≠g→q≠e→q≠b→(SE.set e (.dic (a0B fL (without w.lines z ++ [(z,y,x,kk)])))) q=S q:=fun q h1 h2 h3=>by rw [zaa h2];exact rest q h1 h2 h3
   show a0c _ _ _ (SE.set e (.dic (a0B fL (without w.lines z ++ [(z,y,x,kk)])))) _ _
   generalize SE.set e (.dic (a0B fL (without w.lines z ++ [(z,y,x,kk)])))=SF at layD' mwD hgD rest ⊢
   clear layB mwB hgB
   lia
   refine a5c (T:=a2W K) rfl ?_
   lia
   refine a5x layD'.s.L rfl ?_
   lia
   refine a2F mwD.M rfl a0F ?_
   lia
   refine a2F mwD.e rfl (by rw [a0O];show ((without w.lines z ++ [(z,y,x,kk)]).lookup z).map fL=_;rw [lk];rfl) ?_
   lia
   refine b1V (d:=.int kk) rfl ?_
   lia
   refine ⟨rfl,L,a,b,c',d,_,0,z,y,x,kk,rfl,ed,layD'.s,ok2.ok,?_⟩
   rw [dl]
   show Ends _ none _ _ _
   unfold Ends
   dsimp only
   have layE:a1V (lc K) (SF.set b (.dic (a0B fL ((doWo w (.takeL z)).lay.lines ++ [(z,y,x,kk)])))) L a b c' d (doWo (doWo w (.takeL z)) (.line z y x kk)).lay:=by
    rw [a4v]
    exact layD'.lines _
   have mwE:=mwD.lay (x:=.dic (a0B fL ((doWo w (.takeL z)).lay.lines ++ [(z,y,x,kk)]))) ap (q:=b) (by simp)
   have hgE:(SF.set b (.dic (a0B fL ((doWo w (.takeL z)).lay.lines ++ [(z,y,x,kk)])))) g=some c3:=by rw [zaa (ap.g b (by simp)).symm];exact hgD
   have rest:∀ q,q≠g→q≠e→q≠b→(SF.set b (.dic (a0B fL ((doWo w (.takeL z)).lay.lines ++ [(z,y,x,kk)])))) q=S q:=fun q h1 h2 h3=>by rw [zaa h3];exact rest q h1 h2 h3
   generalize SF.set b (.dic (a0B fL ((doWo w (.takeL z)).lay.lines ++ [(z,y,x,kk)])))=SG at layE mwE hgE rest ⊢
   lia
   exact hK _ c3 SG ok3 rfl rfl rfl hc3 hgE layE mwE fun q h1 h2 h3 _=>rest q h1 h2 h3
  ·rw [if_neg (by rw [zah];exact ht)]
   lia
   exact hK _ c1 SC ok2 rfl rfl rfl hc1 hgB layB mwB fun q h1 h2 h3 _=>rest q h1 h2 h3
 ·rw [if_neg (by rw [zah];exact mz)]
  lia
  exact hK w c0 S ok rfl rfl rfl hc0 hg lay mw fun _ _ _ _ _=>rfl
 ) only [↓Qt.put_off]
end Cl
local macro_rules | `(tactic| ac_nf)=>`(tactic| (repeat (first | (rw [if_pos (by decide +kernel)];lia) | (rw [if_neg (by decide +kernel)];lia))))
namespace Cl
open PySem PySem.Spec PyProof.Rows L2 Sv
variable {K:zbj}
theorem a5z {w:Wo} {zs:List Str} (ok:a2f w) (nm:a7v zs):Plain (a6a w zs):=by
 unfold a6a
 cases e:zs.find? (a69 w) with
 | some z=>exact a7I (nm.n _ (List.mem_of_find?_eq_some e))
 | none =>
  have all:∀ z∈zs,0≤a03 w z∧a03 w z≤99:=fun z hz=>by
   unfold a03
   cases h:w.lines.lookup z with
   | none=>exact ⟨Int.le_refl _,by decide⟩
   | some q =>
    obtain ⟨_,_,_,_,k0,k1⟩:=ok.ln _ (a2s h)
    exact ⟨k0,k1⟩
  have bd:∀ l:List Str,(∀ z∈l,0≤a03 w z∧a03 w z≤99)→0≤a2T w l∧a2T w l≤99 * l.length:=by
   intro l
   induction l with
   | nil=>intro _;exact ⟨Int.le_refl _,Int.le_refl _⟩
   | cons z l ih =>
    intro h
    obtain ⟨h1,h2⟩:=ih fun y hy=>h y (zao _ hy)
    obtain ⟨h3,h4⟩:=h z zal
    have e:a2T w (z :: l)=a03 w z + a2T w l:=by unfold a2T;rw [zax,List.sum_cons]
    rw [e,zaz]
    omega
  obtain ⟨h0,h1⟩:=bd zs all
  have hl:=nm.l
  obtain ⟨n,en⟩:=Int.eq_ofNat_of_zero_le h0
  show Plain (.tup [.str "told",.int (a2T w zs)])
  rw [en]
  have hn:n < 10000:=by omega
  exact a2y (by
   simp only [lfD,a9J,zak,zah]
   refine ⟨by decide,⟨by decide,by decide +kernel⟩,?_,trivial⟩
   have:(10:Nat) ^ 12=1000000000000:=by decide
   omega) (by simp only [D.py,D.pys,PyData.bulk,PyData.bulkAll];decide)
structure a2V (K:zbj) (S:SS) (g L a b c d M e v:Addr) (w0 w:Wo) (cb:Cell):Prop where
 ok:a2f w
 rm:w.rooms=w0.rooms
 sr:w.srcs=w0.srcs
 dr:w.drains=w0.drains
 hcb:a0w cb
 hg:S g=some cb
 lay:a1V (lc K) S L a b c d w.lay
 mw:MW S M e w0.rooms w
 v:∃ l,S v=some (.lst l)
theorem a0w.nl {S:SS} {b q:Addr} {c:Cell} {zs:List D} (hb:S b=some c) (hc:a0w c) (h:S q=some (.lst (zs.map id))) (h0:zs=[]):q≠b:=fun e=>by
 obtain ⟨x,y,z,cells,rfl,_⟩:=hc
 rw [e,hb,h0] at h
 cases h
theorem a2V.grow {S S':SS} {g L a b c' d M e v:Addr} {w0 w:Wo} {cb:Cell} (h:a2V K S g L a b c' d M e v w0 w cb) (k:Grows S S'):a2V K S' g L a b c' d M e v w0 w cb:=⟨h.ok,h.rm,h.sr,h.dr,h.hcb,k.at_ h.hg,h.lay.grow k,h.mw.grow k,let ⟨l,hl⟩:=h.v;⟨l,k.at_ hl⟩⟩
theorem a2V.bag {S:SS} {g L a b c' d M e v:Addr} {w0 w:Wo} {cb:Cell} (h:a2V K S g L a b c' d M e v w0 w cb) (vg:v≠g) {c1:Cell} (k:a0w c1):a2V K (S.set g c1) g L a b c' d M e v w0 w c1:=⟨h.ok,h.rm,h.sr,h.dr,k,zab,h.lay.bag h.hg h.hcb,h.mw.bag h.hg h.hcb,let ⟨l,hl⟩:=h.v;⟨l,by rw [zaa vg];exact hl⟩⟩
theorem a2V.away {S:SS} {g L a b c' d M e v p:Addr} {w0 w:Wo} {cb:Cell} (h:a2V K S g L a b c' d M e v w0 w cb) (pn:∀ q∈[g,M,e,L,a,b,c',d,v],q≠p) (x:Cell):a2V K (S.set p x) g L a b c' d M e v w0 w cb :=
 ⟨h.ok,h.rm,h.sr,h.dr,h.hcb,by rw [zaa (pn g (by simp))];exact h.hg,h.lay.off (pn L (by simp)).symm (pn a (by simp)).symm (pn b (by simp)).symm (pn c' (by simp)).symm (pn d (by simp)).symm,⟨h.mw.Me,by rw [zaa (pn M (by simp))];exact h.mw.M,by rw [zaa (pn e (by simp))];exact h.mw.e⟩,let ⟨l,hl⟩:=h.v;⟨l,by rw [zaa (pn v (by simp))];exact hl⟩⟩
theorem a2V.del {S:SS} {g L a b c' d M e v p:Addr} {w0 w:Wo} {cb:Cell} (h:a2V K S g L a b c' d M e v w0 w cb) (pn:∀ q∈[g,M,e,L,a,b,c',d,v],q≠p):a2V K (S.del p) g L a b c' d M e v w0 w cb:=by
 have lay:=h.lay.s
 exact ⟨h.ok,h.rm,h.sr,h.dr,h.hcb,by rw [SS.del_ne (pn g (by simp))];exact h.hg,⟨⟨by rw [SS.del_ne (pn L (by simp))];exact lay.L,by rw [SS.del_ne (pn a (by simp))];exact lay.a,by rw [SS.del_ne (pn b (by simp))];exact lay.b,by rw [SS.del_ne (pn c' (by simp))];exact lay.c,by rw [SS.del_ne (pn d (by simp))];exact lay.d⟩,h.lay.ab,h.lay.ac,h.lay.ad,h.lay.bc,h.lay.bd,h.lay.cd⟩,⟨h.mw.Me,by rw [SS.del_ne (pn M (by simp))];exact h.mw.M,by rw [SS.del_ne (pn e (by simp))];exact h.mw.e⟩,let ⟨l,hl⟩:=h.v;⟨l,by rw [SS.del_ne (pn v (by simp))];exact hl⟩⟩
theorem a2V.setv {S:SS} {g L a b c' d M e v:Addr} {w0 w:Wo} {cb:Cell} (h:a2V K S g L a b c' d M e v w0 w cb) (vn:∀ q∈[g,M,e,L,a,b,c',d],q≠v) (l:List D):a2V K (S.set v (.lst l)) g L a b c' d M e v w0 w cb :=
 ⟨h.ok,h.rm,h.sr,h.dr,h.hcb,by rw [zaa (vn g (by simp))];exact h.hg,h.lay.off (vn L (by simp)).symm (vn a (by simp)).symm (vn b (by simp)).symm (vn c' (by simp)).symm (vn d (by simp)).symm,⟨h.mw.Me,by rw [zaa (vn M (by simp))];exact h.mw.M,by rw [zaa (vn e (by simp))];exact h.mw.e⟩,l,zab⟩
theorem a7l {w:Wo} {zs:List Str} {x:D} {S:SS} {L a b c' d:Addr} {K1:DK} {Y:XK'} (hv:LV S x zs) (lay:a2e (lc K) S L a b c' d w.lay) (ok:a2f w) (nm:a7v zs) (k:K1 (a6a w zs) S):a1v K none [.obj L,x] S K1 Y:=by
 refine ⟨rfl,_,x,rfl,.inr ⟨L,a,b,c',d,w,zs,rfl,hv,lay,ok,nm,?_⟩⟩
 unfold a6a at k
 cases e:zs.find? (a69 w) with
 | some z=>rw [e] at k;exact k
 | none=>rw [e] at k;exact k
theorem a2V.growB {S S':SS} {g L a b c' d M e v:Addr} {w0 w:Wo} {cb c1:Cell} (h:a2V K S g L a b c' d M e v w0 w cb) (vg:v≠g) (ap:b3f g M e L a b c' d) (k:b0S g S S') (hg:S' g=some c1) (hc:a0w c1):a2V K S' g L a b c' d M e v w0 w c1:=by
 have gM:M≠g:=h.hcb.nd h.hg h.mw.M
 have ge:e≠g:=h.hcb.nd h.hg h.mw.e
 have old:∀ {q:Addr} {x:Cell},q≠g→S q=some x→S' q=some x:=fun {q x} hq e=>by rw [k q hq (by rw [e];exact nofun)];exact e
 have lay:=h.lay.s
 obtain ⟨l,hl⟩:=h.v
 exact ⟨h.ok,h.rm,h.sr,h.dr,hc,hg,⟨⟨old (ap.g L (by simp)) lay.L,old (ap.g a (by simp)) lay.a,old (ap.g b (by simp)) lay.b,old (ap.g c' (by simp)) lay.c,old (ap.g d (by simp)) lay.d⟩,h.lay.ab,h.lay.ac,h.lay.ad,h.lay.bc,h.lay.bd,h.lay.cd⟩,⟨h.mw.Me,old gM h.mw.M,old ge h.mw.e⟩,l,old vg hl⟩
def plF (w:Wo):D→Bool
 | .str z=>match w.lines.lookup z with
  | some q=>decide (q.2.2=0)
  | none=>false
 | _=>false
theorem b2I {w:Wo}:∃ l:List Str,(∀ z∈l,z∈nms w.lines)∧l.length≤w.lines.length∧((((a0B fL w.lines).map fun kv=>keyV kv.1).filter (plF w)).map id)=l.map D.str:=by
 refine ⟨(nms w.lines).filter fun z=>plF w (.str z),fun z hz=>(zay.mp hz).1,?_,?_⟩
 ·refine Nat.le_trans (zbb _ _) ?_
  rw [a1i]
  exact Nat.le_refl _
 ·rw [List.map_id,a4A,List.filter_map]
  rfl
theorem c3a (c:SaysX fa fn fx K):Meets ((tb K).sn N39) ((tb K).G K 39) 1 false (lawT 63) b39:=by
 refine Qt.put_in ?_
 simp (disch :=
 with_unfolding_all
 refine Qt.keep ?_
 rintro m hm ds S KK Y ⟨ns,hns,rfl,hS,hK⟩
 have hm0:m=none:=by cases m with | none=>rfl | some _=>cases hm
 subst hm0
 refine ⟨rfl,?_⟩
 show a0c _ b39 [some _,none,none,none,none,none,none,none,none,none,none,none,none,none,none,none,none,none] _ _ _
 unfold b39
 lia
 refine a0a (T:=b7A) rfl ?_
 lia
 refine ⟨rfl,ns,rfl,fun g c0 fg hc0=>?_⟩
 lia
 refine a4Q rfl ?_
 lia
 refine a0a (T:=a78) rfl ?_
 lia
 refine ⟨rfl,g,c0,rfl,zab,hc0,fun n k c2 n0 n1 k0 k1 hc2=>?_⟩
 rw [zac]
 refine ⟨_,rfl,rfl,?_⟩
 show a0c _ _ [some (.lst (ns.map .int)),some (.obj g),some (.int n),some (.int k),none,none,none,none,none,none,none,none,none,none,none,none,none,none] _ _ _
 lia
 refine a0a (T:=a5V) rfl ?_
 lia
 refine ⟨rfl,g,c2,n,k,rfl,by omega,by omega,by omega,by omega,zab,hc2,fun w M e c3 S1 ok ssrc wne wd rl at_g hc3 mw=>?_⟩
 have ll:=ok.l
 have lr:=ok.r
 lia
 refine a0a (T:=a4p K) rfl ?_
 lia
 refine ⟨rfl,M,e,w,rfl,mw,ok,wd,fun L a b c' d S2 gr fL fa fb fc fd lay=>?_⟩
 have ap:b3f g M e L a b c' d:=by
  have h:∀ {q:Addr},S1 q≠none→∀ r∈[L,a,b,c',d],r≠q:=fun {q} hq r hr e=>by
   subst e
   simp only [zau,zba,or_false] at hr
   rcases hr with rfl | rfl | rfl | rfl | rfl
   ·exact hq fL
   ·exact hq fa
   ·exact hq fb
   ·exact hq fc
   ·exact hq fd
  exact ⟨h (by rw [at_g];exact nofun),h (by rw [mw.M];exact nofun),h (by rw [mw.e];exact nofun)⟩
 have at_g:=gr.at_ at_g
 have mw:=mw.grow gr
 clear gr fL fa fb fc fd
 have ge:e≠g:=hc3.nd at_g mw.e
 have gM:M≠g:=hc3.nd at_g mw.M
 lia
 refine a0a (T:=a3i) rfl ?_
 lia
 refine ⟨rfl,g,c3,2,rfl,by decide,by decide,at_g,hc3,fun zs c4 zl zn zu hc4=>?_⟩
 have mw:=mw.bag (c':=c4) at_g hc3
 have lay:=lay.bag (x':=c4) at_g hc3
 have at_g:(S2.set g c4) g=some c4:=zab
 generalize S2.set g c4=S3 at mw lay at_g ⊢
 refine ⟨_,rfl,?_⟩
 refine a3u id (c1f w) (by rw [zag,zai];omega) (fun _ _ _=>rfl) (fun p i acc d0 K1 KN hd hp hk hn=>?_) ?_
 ·rw [zbh,zam] at hd
  obtain ⟨z,hzi,rfl⟩:=hd
  have nz:=zn z (zaq hzi)
  have pM:M≠p:=zad mw.M hp
  have pe:e≠p:=zad mw.e hp
  refine a2G (b8m ?_)
  show a0o _ _ [some _,some _,some _,some _,some _,some _,none,some (.str z),none,none,none,none,none,none,none,none,none,none] _ _ _
  lia
  refine a2F (by rw [zaa pM];exact mw.M) rfl a0F ?_
  lia
  refine b2m (by rw [zaa pe];exact mw.e) rfl ?_
  rw [a1b]
  lia
  by_cases mz:z∈nms w.lines
  ·rw [if_neg (by simpa using mz)]
   exact hn (by show (!decide (z∈nms w.lines))=false;rw [zbg mz];rfl)
  ·rw [if_pos (by simpa using mz)]
   exact hk (by show (!decide (z∈nms w.lines))=true;rw [zbf mz];rfl)
 rw [a7F]
 have dn:∀ z∈zs.filter (fun z=>!decide (z∈nms w.lines)),Nm z∧z∉nms w.lines:=fun z hz=>⟨zn z (zay.mp hz).1,by simpa using (zay.mp hz).2⟩
 have du:(zs.filter fun z=>!decide (z∈nms w.lines)).Nodup:=zu.filter _
 have dl:(zs.filter fun z=>!decide (z∈nms w.lines)).length≤3:=by
  have:=zbb (fun z=>!decide (z∈nms w.lines)) zs
  omega
 generalize zs.filter (fun z=>!decide (z∈nms w.lines))=drs at dn du dl ⊢
 lia
 refine ⟨_,rfl,?_⟩
 obtain ⟨r0,rt,er⟩:∃ r l,w.rooms=r :: l:=match w.rooms,wne with | r :: l,_=>⟨r,l,rfl⟩
 have mr0:r0∈w.rooms:=by rw [er];exact zal
 refine ⟨fun i δ' S'=>∃ x7,a2f (drW w (drs.take i) r0)∧S' g=some c4∧a1V (lc K) S' L a b c' d (drW w (drs.take i) r0).lay∧MW S' M e w.rooms w∧δ'=[some (.lst (ns.map .int)),some (.obj g),some (.int n),some (.int k),some (.obj M),some (.obj L),some (.lst (drs.map D.str)),x7,none,none,none,none,none,none,none,none,none,none],⟨none,?_,at_g,?_,mw,rfl⟩,fun _ _ _ _ _=>rfl,?_,?_⟩
 ·rw [show drW w (drs.take 0) r0=w from by show (⟨w.rooms,w.lines,[],w.srcs⟩:Wo)=w;rw [← wd]]
  exact ok
 ·rw [show drW w (drs.take 0) r0=w from by show (⟨w.rooms,w.lines,[],w.srcs⟩:Wo)=w;rw [← wd]]
  exact lay
 ·clear mw lay at_g
  rintro i d0 δ' S' hd ⟨x7,okd,at_g,lay,mw,rfl⟩
  rw [zbh,zam] at hd
  obtain ⟨z,hzi,rfl⟩:=hd
  obtain ⟨nz,nl⟩:=dn z (zaq hzi)
  have et:drs.take (i + 1)=drs.take i ++ [z]:=take_snoc hzi
  have new:=a4e du hzi
  have edd:drW w (drs.take (i + 1)) r0=doWo (drW w (drs.take i) r0) (.drain z r0):=by
   rw [et]
   unfold drW doWo
   rw [zav]
   rfl
  have dd:due (drW w (drs.take i) r0).lay (.drain z r0)=none:=a8o nl (by rw [a8m];exact new) mr0 (by
   show ((drs.take i).map fun z=>(z,r0)).length < 12
   rw [zag,List.length_take]
   omega)
  have edk:(a6D.drain z r0).Ok:=⟨nz,ok.rn _ mr0⟩
  refine a2G ?_
  lia
  refine a5c (T:=a3g K) rfl ?_
  lia
  refine a5x lay.s.L rfl ?_
  lia
  refine a2F mw.M rfl a6B ?_
  lia
  refine a3V (d:=.str r0) (by rw [er];exact atI_nat (j:=0) rfl) ?_
  lia
  refine ⟨rfl,L,a,b,c',d,_,0,z,r0,rfl,edk,lay.s,okd.ok,?_⟩
  rw [dd]
  show Ends _ none _ _ _
  unfold Ends
  dsimp only
  lia
  refine ⟨_,by rw [edd];exact okd.doWo edk dd,by rw [zaa (ap.g c' (by simp)).symm];exact at_g,?_,mw.lay ap (by simp),rfl⟩
  rw [edd,a4v]
  exact lay.drains _
 clear mw lay at_g
 rintro δ' S4 ⟨x7,okd,at_g,lay,mw,rfl⟩
 rw [zag,List.take_length] at okd lay
 have mw:MW S4 M e (drW w drs r0).rooms (drW w drs r0):=⟨mw.Me,mw.M,mw.e⟩
 have edn:nms (drW w drs r0).drains=drs:=a8m
 have esr:a0i (drW w drs r0).srcs=(drW w drs r0).srcs:=ssrc
 have rne0:(drW w drs r0).rooms≠[]:=wne
 generalize drW w drs r0=w0 at okd lay mw edn esr rne0
 clear ok ssrc wd rl ll lr mr0 er wne rt r0 dl
 have ll:=okd.l
 have lr:=okd.r
 have nl:(nms w0.lines).length=w0.lines.length:=a1i
 have dl:drs.length≤12:=by
  rw [← edn,a1i]
  exact okd.d
 lia
 intro v fv
 have vn:∀ q∈[g,M,e,L,a,b,c',d],q≠v:=fun q hq=>by
  simp only [zau,zba,or_false] at hq
  rcases hq with rfl | rfl | rfl | rfl | rfl | rfl | rfl | rfl
  ·exact zad at_g fv
  ·exact zad mw.M fv
  ·exact zad mw.e fv
  ·exact zad lay.s.L fv
  ·exact zad lay.s.a fv
  ·exact zad lay.s.b fv
  ·exact zad lay.s.c fv
  ·exact zad lay.s.d fv
 have vg:v≠g:=(vn g (by simp)).symm
 have at0:a2V K (S4.set v (.lst [])) g L a b c' d M e v w0 w0 c4:=by
  have gr:Grows S4 (S4.set v (.lst [])):=Grows.set fv
  exact ⟨okd,rfl,rfl,rfl,hc4,gr.at_ at_g,lay.grow gr,mw.grow gr,[],zab⟩
 clear lay mw at_g
 generalize S4.set v (.lst [])=S5 at at0 ⊢
 lia
 refine a2F at0.mw.M rfl a6B ?_
 refine a2w (by rw [zag,zag,zai];omega) ?_
 rw [← zav]
 lia
 refine a0a (T:=a77) rfl ?_
 lia
 refine ⟨rfl,g,c4,rfl,at0.hg,hc4,fun y1 c5 hy1 hc5=>?_⟩
 have at1:=at0.bag vg hc5
 clear at0
 generalize S5.set g c5=S6 at at1 ⊢
 lia
 refine a0a (T:=a77) rfl ?_
 lia
 refine ⟨rfl,g,c5,rfl,at1.hg,hc5,fun y2 c6 hy2 hc6=>?_⟩
 have at2:=at1.bag vg hc6
 clear at1
 generalize S6.set g c6=S7 at at2 ⊢
 lia
 have mw:=at2.mw
 refine b8y mw.e ?_
 lia
 have M1:(S7.set e (.loc (a0B fL w0.lines))) M=some (.dic (mW w0 e w0.rooms)):=by rw [zaa mw.Me];exact mw.M
 refine a2F M1 rfl a0F ?_
 refine ⟨e,_,rfl,zab,?_⟩
 refine a3u id (plF w0) (by rw [zag,a0D,zai];omega) (fun _ _ _=>trivial) (fun p i acc d K1 KN hd hp hk hn=>?_) ?_
 ·obtain ⟨q,rfl,hq⟩:=a8J hd
  have hq:=zaq hq
  have pM:M≠p:=zad M1 hp
  have pe:e≠p:=zad zab hp
  have el:plF w0 (.str q.1)=decide (q.2.2.2=0):=by simp only [plF,a05 okd.lu hq]
  refine a2G (b8m ?_)
  show a0o _ _ [some _,some _,some _,some _,some _,some _,some _,some _,some _,some _,none,none,none,none,none,none,none,none] _ _ _
  lia
  refine a2F (by rw [zaa pM];exact M1) rfl a0F ?_
  lia
  refine b80 (by rw [zaa pe];exact zab) rfl (by rw [a0O,a05 okd.lu hq];rfl) ?_
  lia
  refine b1V (d:=.int q.2.2.2) rfl ?_
  lia
  by_cases h:q.2.2.2=0
  ·rw [if_pos (zbg h)]
   exact hk (el.trans (zbg h))
  ·rw [if_neg (by rw [zah];exact h)]
   exact hn (el.trans (zbf h))
 obtain ⟨pl,plin,pll,epl⟩:=b2I (w:=w0)
 rw [epl,zac,SS.set_id mw.e]
 refine a2w (by simp only [zaw,zag,zaz,List.length_nil,zai];omega) ?_
 rw [show (drs ++ w0.rooms).map D.str ++ [D.str y1,D.str y2] ++ pl.map D.str=(drs ++ w0.rooms ++ [y1,y2] ++ pl).map D.str by simp]
 have odn:∀ z∈drs ++ w0.rooms ++ [y1,y2] ++ pl,Nm z:=fun z hz=>by
  rcases zap.mp hz with hz | hz
  ·rcases zap.mp hz with hz | hz
   ·rcases zap.mp hz with hz | hz
    ·exact (dn z hz).1
    ·exact okd.rn z hz
   ·rcases zau.mp hz with rfl | hz
    ·exact hy1
    ·rw [zaj.mp hz];exact hy2
  ·obtain ⟨q,hq,rfl⟩:=zan.mp (plin z hz)
   exact (okd.ln q hq).1
 have odl:(drs ++ w0.rooms ++ [y1,y2] ++ pl).length≤100:=by
  simp only [zaw,zaz,List.length_nil]
  omega
 have ode:drs ++ w0.rooms ++ [y1,y2] ++ pl≠[]:=by simp
 generalize drs ++ w0.rooms ++ [y1,y2] ++ pl=odd at odn odl ode ⊢
 clear plin pll epl M1 mw
 have ode1:1≤odd.length:=List.length_pos_iff.mpr ode
 lia
 refine ⟨by decide,by decide,?_⟩
 refine ⟨fun i δ' S'=>∃ w1 cb,∃ x7 x10 x11 x12 x13 x14:Option D,a2V K S' g L a b c' d M e v w0 w1 cb∧δ'=[some (.lst (ns.map .int)),some (.obj g),some (.int n),some (.int k),some (.obj M),some (.obj L),some (.lst (drs.map D.str)),x7,some (.obj v),some (.lst (odd.map D.str)),x10,x11,x12,x13,x14,none,none,none],⟨w0,c6,x7,none,none,none,none,none,at2,rfl⟩,fun _ _ _ _ _=>trivial,?_,?_⟩
 ·clear at2 hc6 x7
  rintro i d0 δ' S' hd ⟨w1,cb,x7,x10,x11,x12,x13,x14,at1,rfl⟩
  obtain ⟨hi,rfl⟩:=a4L hd
  refine a2G ?_
  lia
  refine a0a (T:=a4m) rfl ?_
  lia
  refine ⟨rfl,g,cb,M,e,w0.rooms,w1,rfl,at1.hg,at1.hcb,at1.mw,at1.ok,fun zs c7 q fq zu zsw hc7=>?_⟩
  have pn:∀ p∈[g,M,e,L,a,b,c',d,v],p≠q:=fun p hp=>by
   obtain ⟨l,hl⟩:=at1.v
   simp only [zau,zba,or_false] at hp
   rcases hp with rfl | rfl | rfl | rfl | rfl | rfl | rfl | rfl | rfl
   ·exact zad at1.hg fq
   ·exact zad at1.mw.M fq
   ·exact zad at1.mw.e fq
   ·exact zad at1.lay.s.L fq
   ·exact zad at1.lay.s.a fq
   ·exact zad at1.lay.s.b fq
   ·exact zad at1.lay.s.c fq
   ·exact zad at1.lay.s.d fq
   ·exact zad hl fq
  have gq:g≠q:=pn g (by simp)
  have vq:v≠q:=pn v (by simp)
  have zn:∀ z∈zs,Nm z:=fun z hz=>(a2c at1.ok (zsw z hz)).1
  have zl:zs.length≤40:=by
   have h1:=a2p zu zsw
   have h2:(a0r w1).length≤w1.lines.length:=by
    unfold a0r nms
    rw [zag]
    exact zbb _ _
   have:=at1.ok.l
   omega
  have at2:=(at1.bag vg hc7).away pn (.lst (zs.map D.str))
  have hq:((S'.set g c7).set q (.lst (zs.map D.str))) q=some (.lst (zs.map D.str)):=zab
  clear at1 fq zsw
  generalize (S'.set g c7).set q (.lst (zs.map D.str))=S8 at at2 hq ⊢
  lia
  refine a0a (T:=a0v) rfl ?_
  lia
  refine ⟨rfl,g,4,c7,rfl,by decide,by decide,at2.hg,hc7,fun t c8 t0 t1 hc8=>?_⟩
  have at3:=at2.bag vg hc8
  have hq:(S8.set g c8) q=some (.lst (zs.map D.str)):=by rw [zaa gq.symm];exact hq
  clear at2
  generalize S8.set g c8=S9 at at3 hq ⊢
  obtain ⟨kk,ek,kk0,kk1⟩:∃ kk:Int,atI [D.int 0,.int 1,.int 2,.int 0] t=some (.int kk)∧0≤kk∧kk≤2:=by
   obtain rfl | rfl | rfl | rfl:t=0∨t=1∨t=2∨t=3:=by omega
   all_goals exact ⟨_,rfl,by decide,by decide⟩
  refine a3V ek ?_
  have bd:=bnd (j:=kk) (by omega) (by omega)
  refine ⟨_,rfl,bd.1,bd.2,?_⟩
  have ln:(a6s 0 kk.toNat).length=kk.toNat:=by rw [a08]
  refine ⟨fun i1 δ' S'=>∃ (ys:List Str) (cb:Cell) (x7 x12:Option D),a2V K S' g L a b c' d M e v w0 w1 cb∧ys.Nodup∧(∀ z∈ys,Nm z)∧ys.length≤zs.length + i1∧S' q=some (.lst (ys.map D.str))∧δ'=[some (.lst (ns.map .int)),some (.obj g),some (.int n),some (.int k),some (.obj M),some (.obj L),some (.lst (drs.map D.str)),x7,some (.obj v),some (.lst (odd.map D.str)),some (.int (0 + (i:Int))),some (.obj q),x12,x13,x14,none,none,none],⟨zs,c8,x7,x12,at3,zu,zn,Nat.le_refl _,hq,rfl⟩,fun _ _ _ _ _=>trivial,?_,?_⟩
  ·clear at3 hq hc8 x7 x12
   rintro i1 d0 δ' S' hd1 ⟨ys,cb,x7,x12,at3,yu,yn,yl,hq,rfl⟩
   have il:=(List.getElem?_eq_some_iff.mp hd1).1
   rw [ln] at il
   obtain ⟨_,rfl⟩:=a4L hd1
   refine a2G ?_
   lia
   refine a0a (T:=a0v) rfl ?_
   lia
   refine ⟨rfl,g,_,cb,rfl,by rw [zag];omega,lg (by rw [zag];omega) (by rw [zag];omega),at3.hg,at3.hcb,fun u c9 u0 u1 hc9=>?_⟩
   have at4:=at3.bag vg hc9
   have hq:(S'.set g c9) q=some (.lst (ys.map D.str)):=by rw [zaa gq.symm];exact hq
   clear at3
   generalize S'.set g c9=S10 at at4 hq ⊢
   rw [zag] at u1
   obtain ⟨u,rfl⟩:=Int.eq_ofNat_of_zero_le u0
   have hu:u < odd.length:=by omega
   refine a3V (a1W (zbi hu)) ?_
   have oz:=odn _ (List.getElem_mem hu)
   generalize odd[u]=z at oz ⊢
   lia
   refine a8Z hq oz.fine (fun r hr=>(yn r hr).fine) ?_
   lia
   by_cases hz:z∈ys
   ·rw [if_neg (by rw [zbg hz];decide)]
    lia
    exact ⟨ys,c9,_,_,at4,yu,yn,by omega,hq,rfl⟩
   ·rw [if_pos (by rw [zbf hz];rfl)]
    lia
    refine ⟨b5y hq,?_⟩
    lia
    refine a0a (T:=a0v) rfl ?_
    lia
    refine b2b hq ?_
    lia
    refine ⟨rfl,g,_,c9,rfl,by rw [zag];omega,lg (by rw [zag];omega) (by rw [zag];omega),at4.hg,hc9,fun t c10 t0 t1 hc10=>?_⟩
    have at5:=at4.bag vg hc10
    have hq:(S10.set g c10) q=some (.lst (ys.map D.str)):=by rw [zaa gq.symm];exact hq
    rw [zag] at t1
    obtain ⟨t,rfl⟩:=Int.eq_ofNat_of_zero_le t0
    lia
    refine ⟨_,hq,by rw [zag,zai];omega,t0,by omega,?_⟩
    rw [show (ys.map D.str).take (Int.toNat (t:Int)) ++ [D.str z] ++ (ys.map D.str).drop (Int.toNat (t:Int))=(putIn ys t z).map D.str by unfold putIn;simp]
    lia
    exact ⟨putIn ys t z,c10,_,_,at5.away pn _,b0v yu hz,(fun y hy=>(a3C.mp hy).elim (yn y) fun e=>e ▸ oz),by rw [a9e];omega,zab,rfl⟩
  clear at3 hq
  rintro δ' S11 ⟨ys,cb2,z7,y12,at3,yu,yn,yl,hq,rfl⟩
  rw [ln] at yl
  have nm:a7v ys:=⟨yn,yu,by omega⟩
  have pl:=a7J (zs:=ys) (by omega) yn
  lia
  refine ⟨by decide,by decide,?_⟩
  refine ⟨fun i1 δ' S'=>∃ (x13 x14:Option D),a2V K S' g L a b c' d M e v w0 w1 cb2∧S' q=some (.lst (ys.map D.str))∧δ'=[some (.lst (ns.map .int)),some (.obj g),some (.int n),some (.int k),some (.obj M),some (.obj L),some (.lst (drs.map D.str)),z7,some (.obj v),some (.lst (odd.map D.str)),some (.int (0 + (i:Int))),some (.obj q),y12,x13,x14,none,none,none],⟨x13,x14,at3,hq,rfl⟩,fun _ _ _ _ _=>trivial,?_,?_⟩
  ·clear at3 hq x13 x14
   rintro i1 d0 δ' S' hd1 ⟨x13,x14,at3,hq,rfl⟩
   obtain ⟨hi1,rfl⟩:=a4L hd1
   have hi1:i1 < 2:=hi1
   obtain ⟨l,hl⟩:=at3.v
   refine a2G ?_
   lia
   refine ⟨b5y hl,?_⟩
   lia
   refine ⟨_,hl,?_⟩
   have at4:=at3.setv vn []
   have hq:(S'.set v (.lst [])) q=some (.lst (ys.map D.str)):=by rw [zaa vq.symm];exact hq
   have hl:(S'.set v (.lst [])) v=some (.lst []):=zab
   clear at3
   generalize S'.set v (.lst [])=S12 at at4 hq hl ⊢
   lia
   refine ⟨b5y hl,?_⟩
   lia
   refine ⟨[],q,ys.map D.str,hl,rfl,hq,by rw [zag,zai];show 0 + _≤_;omega,?_⟩
   rw [List.nil_append]
   have at5:=at4.setv vn (ys.map D.str)
   have hq:(S12.set v (.lst (ys.map D.str))) q=some (.lst (ys.map D.str)):=by rw [zaa vq.symm];exact hq
   have hl:(S12.set v (.lst (ys.map D.str))) v=some (.lst (ys.map D.str)):=zab
   clear at4
   generalize S12.set v (.lst (ys.map D.str))=S13 at at5 hq hl ⊢
   lia
   refine ⟨_,.inl (b0R hq),?_⟩
   rw [if_neg zbe]
   lia
   obtain ⟨x,ex,hv⟩:∃ x,atI [D.obj v,.lst (ys.map D.str)] (0 + (i1:Int))=some x∧LV S13 x ys:=by
    obtain rfl | rfl:i1=0∨i1=1:=by omega
    ·exact ⟨_,rfl,.inr ⟨v,rfl,hl⟩⟩
    ·exact ⟨_,rfl,.inl rfl⟩
   refine a3V ex ?_
   lia
   refine a5J (T:=a3W) rfl ?_
   lia
   refine a0a (T:=a1v K) rfl ?_
   lia
   refine a7l hv at5.lay.s at5.ok nm ?_
   lia
   refine a0a (T:=a6F) rfl ?_
   lia
   refine ⟨rfl,M,e,_,w1,.obj q,ys,rfl,.inr ⟨q,rfl,hq⟩,at5.mw,at5.ok,nm,?_⟩
   lia
   refine ⟨rfl,_,rfl,a5z at5.ok nm,?_⟩
   lia
   ac_nf
   refine b3M (by rw [hv.vw];exact pl.ok) (by rw [b0R hq];exact pl.ok) ?_
   rw [hv.vw,b0R hq,pl.self]
   lia
   ac_nf
   exact ⟨_,_,at5,hq,rfl⟩
  clear at3 hq
  rintro δ' S12 ⟨y13,y14,at3,hq,rfl⟩
  refine b1b rfl hq ?_
  have at4:=at3.del pn
  clear at3 hq
  generalize S12.del q=S13 at at4 ⊢
  refine a5H (fun δ' S'=>∃ w2 cb,a2V K S' g L a b c' d M e v w0 w2 cb∧δ'=[some (.lst (ns.map .int)),some (.obj g),some (.int n),some (.int k),some (.obj M),some (.obj L),some (.lst (drs.map D.str)),z7,some (.obj v),some (.lst (odd.map D.str)),some (.int (0 + (i:Int))),some (.lst (ys.map D.str)),y12,y13,y14,none,none,none]) ?_ ?_
  ·lia
   refine b3L (fun z hz=>(yn z hz).fine) ?_
   lia
   by_cases en:ys=[]
   ·rw [if_neg (by rw [en];decide)]
    lia
    ac_nf
    exact ⟨w1,cb2,at4,rfl⟩
   have yl1:1≤ys.length:=List.length_pos_iff.mpr en
   rw [if_pos (by cases ys with | nil=>exact absurd rfl en | cons z l=>rfl)]
   lia
   refine a0a (T:=a0v) rfl ?_
   lia
   refine ⟨rfl,g,2,cb2,rfl,by decide,by decide,at4.hg,at4.hcb,fun t c9 t0 t1 hc9=>?_⟩
   have at5:=at4.bag vg hc9
   clear at4
   generalize S13.set g c9=S15 at at5 ⊢
   lia
   by_cases ht:t=0
   ·rw [if_pos (zbg ht)]
    try rw [if_pos rfl]
    lia
    refine a0a (T:=a3k K) rfl ?_
    lia
    refine a0a (T:=a0v) rfl ?_
    lia
    refine ⟨rfl,g,_,c9,rfl,by rw [zag];omega,lg (by rw [zag];omega) (by rw [zag];omega),at5.hg,hc9,fun u c10 u0 u1 hc10=>?_⟩
    have at6:=at5.bag vg hc10
    clear at5
    generalize S15.set g c10=S16 at at6 ⊢
    rw [zag] at u1
    obtain ⟨u,rfl⟩:=Int.eq_ofNat_of_zero_le u0
    have hu:u < ys.length:=by omega
    refine a3V (a1W (zbi hu)) ?_
    have oz:=yn _ (List.getElem_mem hu)
    generalize ys[u]=z at oz ⊢
    lia
    refine ⟨rfl,g,c10,L,a,b,c',d,M,e,_,w1,z,rfl,at6.hg,hc10,at6.lay,at6.mw,ap,at6.ok,oz,fun w2 c11 S17 ok2 rm2 sr2 dr2 hc11 hg2 lay2 mw2 rest=>?_⟩
    have at7:a2V K S17 g L a b c' d M e v w0 w2 c11:=by
     obtain ⟨l,hl⟩:=at6.v
     exact ⟨ok2,rm2.trans at6.rm,sr2.trans at6.sr,dr2.trans at6.dr,hc11,hg2,lay2,mw2,l,by rw [rest v vg (vn e (by simp)).symm (vn b (by simp)).symm (by rw [hl];exact nofun)];exact hl⟩
    clear at6
    lia
    refine a5J (T:=a3W) rfl ?_
    lia
    refine a0a (T:=a1v K) rfl ?_
    lia
    refine a7l (.inl rfl) at7.lay.s at7.ok nm ?_
    lia
    refine a0a (T:=a6F) rfl ?_
    lia
    refine ⟨rfl,M,e,_,w2,_,ys,rfl,.inl rfl,at7.mw,at7.ok,nm,?_⟩
    lia
    refine ⟨rfl,_,rfl,a5z at7.ok nm,?_⟩
    lia
    ac_nf
    exact ⟨w2,c11,at7,rfl⟩
   ·rw [if_neg (by rw [zah];exact ht)]
    lia
    ac_nf
    exact ⟨w1,c9,at5,rfl⟩
  clear at4
  rintro δ' S14 ⟨w2,cb3,at5,rfl⟩
  lia
  refine a5J (T:=a4q K) rfl ?_
  lia
  refine ⟨rfl,g,cb3,L,a,b,c',d,w2,ys,rfl,at5.hg,at5.hcb,at5.lay.s,at5.ok,nm,fun c12 S15 hc12 hg15 gb=>?_⟩
  lia
  ac_nf
  exact ⟨w2,c12,_,_,_,_,_,_,at5.growB vg ap gb hg15 hc12,rfl⟩
 ·clear at2
  rintro δ' S14 ⟨w1,cb,x7,x10,x11,x12,x13,x14,at1,rfl⟩
  have ok1:=at1.ok
  have ll:=ok1.l
  have lr:=ok1.r
  have ld:=ok1.d
  have mw:=at1.mw
  have lay:=at1.lay.s
  have nl:(nms w1.lines).length=w1.lines.length:=a1i
  have nd:(nms w1.drains).length=w1.drains.length:=a1i
  have ns':=a2p ok1.su ok1.s
  have e1:nms w1.lay.rooms=w1.rooms:=a0j
  have e4:nms w1.lay.pushed=w1.srcs:=a0j
  lia
  refine a5c (T:=a2j K fun st=>nms st.rooms) rfl ?_
  lia
  refine a5x lay.L rfl ?_
  lia
  refine ⟨rfl,L,a,b,c',d,w1.lay,rfl,lay,by show (nms w1.lay.rooms).length < 64;rw [e1];omega,?_⟩
  lia
  refine a5c (T:=a2j K fun st=>nms st.lines) rfl ?_
  lia
  refine a5x lay.L rfl ?_
  lia
  refine ⟨rfl,L,a,b,c',d,w1.lay,rfl,lay,by show (nms w1.lines).length < 64;omega,?_⟩
  lia
  refine a5c (T:=a2j K fun st=>nms st.drains) rfl ?_
  lia
  refine a5x lay.L rfl ?_
  lia
  refine ⟨rfl,L,a,b,c',d,w1.lay,rfl,lay,by show (nms w1.drains).length < 64;omega,?_⟩
  lia
  refine a5c (T:=a2j K fun st=>nms st.pushed) rfl ?_
  lia
  refine a5x lay.L rfl ?_
  lia
  refine ⟨rfl,L,a,b,c',d,w1.lay,rfl,lay,by show (nms w1.lay.pushed).length < 64;rw [e4];omega,?_⟩
  lia
  refine a5c (T:=a2j K fun st=>nms st.lines) rfl ?_
  lia
  refine a5x lay.L rfl ?_
  lia
  refine ⟨rfl,L,a,b,c',d,w1.lay,rfl,lay,by show (nms w1.lines).length < 64;omega,?_⟩
  have look:∀ {j:Nat} {d0:D},((a0i (nms w1.lines)).map D.str)[j]?=some d0→∃ z q,d0=.str z∧Nm z∧w1.lines.lookup z=some q∧b0h w1 d0=fL q:=fun {j d0} hd=>by
   rw [zbh,zam] at hd
   obtain ⟨z,hz,rfl⟩:=hd
   have mz:=a0S.mp (zaq hz)
   obtain ⟨q,hq⟩:=a1K mz
   refine ⟨z,q,rfl,(ok1.ln _ (a2s hq)).1,hq,?_⟩
   show lineOf w1 z=_
   unfold lineOf
   rw [hq]
  have few:((a0i (nms w1.lines)).map D.str).length≤sizeLine:=by rw [zag,a4N,zai];omega
  refine ⟨_,rfl,?_⟩
  refine a3u (b0h w1) (fun _=>true) few (fun _ _ _=>rfl) (fun p j acc d0 K1 KN hd hp hk hn=>?_) ?_
  ·obtain ⟨z,q,rfl,nz,hq,el⟩:=look hd
   refine a2G (a9S ?_)
   rw [if_pos rfl]
   show den _ _ [some _,some _,some _,some _,some _,some (.obj L),some _,some (.str z),some _,some _,_,_,_,_,_,_,_,_] _ _ _
   lia
   refine a5c (T:=a76 K) rfl ?_
   lia
   refine a5x (lay.grow (Grows.set hp)).L rfl ?_
   lia
   refine ⟨rfl,L,a,b,c',d,w1.lay,z,q,rfl,nz,lay.grow (Grows.set hp),hq,?_⟩
   rw [← el]
   exact hk rfl
  rw [show a0i (nms w1.lay.lines)=a0i (nms w1.lines) from rfl,a5q]
  lia
  refine a2F mw.M rfl a0F ?_
  lia
  refine a7O mw.e a1I (by omega) ?_
  refine ⟨_,rfl,?_⟩
  refine a3u (b0h w1) (fun _=>true) few (fun _ _ _=>rfl) (fun p j acc d0 K1 KN hd hp hk hn=>?_) ?_
  ·obtain ⟨z,q,rfl,nz,hq,el⟩:=look hd
   have pM:M≠p:=zad mw.M hp
   have pe:e≠p:=zad mw.e hp
   refine a2G (a9S ?_)
   rw [if_pos rfl]
   show den _ _ [some _,some _,some _,some _,some (.obj M),some (.obj L),some _,some (.str z),some _,some _,_,_,_,_,_,_,_,_] _ _ _
   lia
   refine a2F (by rw [zaa pM];exact mw.M) rfl a0F ?_
   lia
   refine a2F (by rw [zaa pe];exact mw.e) rfl (by rw [a0O,hq];rfl) ?_
   rw [← el]
   exact hk rfl
  rw [a5q]
  lia
  refine a2F mw.M rfl b3d ?_
  lia
  refine a2F mw.M rfl a0F ?_
  lia
  refine a7O mw.e a1I (by omega) ?_
  lia
  refine b5N (by omega) ?_
  lia
  refine a2F mw.M rfl a5N ?_
  lia
  have e3:a0i drs=a0i (nms w1.drains):=by rw [at1.dr,edn]
  have e5:a0i w1.srcs=w1.srcs:=by rw [at1.sr];exact esr
  refine a0a (T:=a3W) rfl ?_
  lia
  refine ⟨rfl,b3b w1,by unfold b3b;rw [e3,e1,e4,e5];rfl,b6r ok1,?_⟩
  lia
  ac_nf
  refine a0a (T:=a3W) rfl ?_
  lia
  refine a0a (T:=a2i K) rfl ?_
  lia
  refine c07 (T:=a9O K) rfl rfl ?_
  lia
  intro L2 frL
  refine ⟨rfl,L2,rfl,zab,fun a2 b2 c2 d2 aL bL cL dL ab ac ad bc bd cd fa fb fc fd=>⟨rfl,?_⟩⟩
  have l0:=a2e.put (C:=lc K) (S:=S14.set L2 (.ins (lc K) [])) aL bL cL dL ab ac ad bc bd cd
  show den _ _ _ (a9d (lc K) (S14.set L2 (.ins (lc K) [])) L2 a2 b2 c2 d2) _ _
  lia
  refine ⟨rfl,.obj L2,.lst [],rfl,.inr ⟨L2,a2,b2,c2,d2,⟨[],[],[],[]⟩,[],rfl,.inl rfl,l0.s,⟨by decide,(fun _ h=>nomatch h),List.nodup_nil,by decide,(fun _ h=>nomatch h),List.nodup_nil,by decide,(fun _ h=>nomatch h),List.nodup_nil,(fun _ h=>nomatch h),(fun _ h=>nomatch h),List.nodup_nil⟩,⟨(fun _ h=>nomatch h),List.nodup_nil,by decide⟩,?_⟩⟩
  lia
  exact ⟨rfl,.int 0,rfl,a2y (by decide +kernel) (by decide +kernel),hK _⟩
 ) only [↓Qt.put_off]
open L2H (RoomH)
section
theorem a1j {P:TR→Prop}:∀ T:TR,(none:Option TR)=some T→P T:=fun _ h=>nomatch h
theorem a1l {P:TR→Prop} {T0:TR} (h0:P T0):∀ T:TR,some T0=some T→P T:=fun _ h=>by cases h;exact h0
variable {P:Program} {w:World} {K:zbj} {h:Heap} {mg:Str→Option Value} {base:Heap}
theorem a1h (X:K.In h) (G:h.Ns mainGlobals mg) (c:SaysX fa fn fx K):b7B (tb K) w K mg where
 cl:=fun x hx=>by
  have hx:x∈b3R:=hx
  simp only [b3R,zau,zba,or_false] at hx
  rcases hx with rfl | rfl | rfl | rfl | rfl | rfl | rfl | rfl
  ·exact He.glo_ok X G (c.d.fact 42 (f:=.glo "MainsError") rfl)
  ·exact He.glo_ok X G (c.d.fact 43 (f:=.glo "Wrong") rfl)
  ·exact He.glo_ok X G (c.d.fact 44 (f:=.glo "There") rfl)
  ·exact He.glo_ok X G (c.d.fact 45 (f:=.glo "Lacks") rfl)
  ·exact He.glo_ok X G (c.d.fact 46 (f:=.glo "TooMany") rfl)
  ·exact He.glo_ok X G (c.d.fact 47 (f:=.glo "Held") rfl)
  ·exact He.glo_ok X G (c.d.fact 48 (f:=.glo "NoPart") rfl)
  ·exact He.glo_ok X G (c.d.fact 49 (f:=.glo "Layout") rfl)
 gv:=fun j x hx=>by
  have hx:b8Q[j]?=some x:=hx
  match j,hx with
  | 0,hx=>cases hx;obtain ⟨t,e⟩:=He.str_ok X G (c.d.fact 72 rfl);exact ⟨.str "abcdefghijklmnopqrstuvwxyz",_,e,⟨t,rfl⟩,fun S H=>by show Rep _ S H (.str "abcdefghijklmnopqrstuvwxyz") _;simp only [Rep]⟩
  | 1,hx=>cases hx;obtain ⟨t,e⟩:=He.int_ok X G (c.d.fact 73 rfl);exact ⟨.int 8,_,e,⟨t,rfl⟩,fun S H=>by show Rep _ S H (.int 8) _;simp only [Rep]⟩
  | 2,hx=>cases hx;obtain ⟨t,e⟩:=He.int_ok X G (c.d.fact 74 rfl);exact ⟨.int 99,_,e,⟨t,rfl⟩,fun S H=>by show Rep _ S H (.int 99) _;simp only [Rep]⟩
  | 3,hx=>cases hx;obtain ⟨t,e⟩:=He.int_ok X G (c.d.fact 75 rfl);exact ⟨.int 60,_,e,⟨t,rfl⟩,fun S H=>by show Rep _ S H (.int 60) _;simp only [Rep]⟩
  | 4,hx=>cases hx;obtain ⟨t,e⟩:=He.int_ok X G (c.d.fact 76 rfl);exact ⟨.int 24,_,e,⟨t,rfl⟩,fun S H=>by show Rep _ S H (.int 24) _;simp only [Rep]⟩
  | 5,hx=>cases hx;obtain ⟨t,e⟩:=He.int_ok X G (c.d.fact 77 rfl);exact ⟨.int 40,_,e,⟨t,rfl⟩,fun S H=>by show Rep _ S H (.int 40) _;simp only [Rep]⟩
  | 6,hx=>cases hx;obtain ⟨t,e⟩:=He.int_ok X G (c.d.fact 78 rfl);exact ⟨.int 12,_,e,⟨t,rfl⟩,fun S H=>by show Rep _ S H (.int 12) _;simp only [Rep]⟩
  | n + 7,hx=>cases hx
 kd:=fun j x kvs hx hk=>by
  have hk:(none:Option (List (Key × D)))=some kvs:=hk
  cases hk
 bt:=fun x hx=>by
  simp only [a3Z,zau,zba,or_false] at hx
  rcases hx with rfl | rfl | rfl | rfl | rfl | rfl | rfl | rfl | rfl | rfl | rfl | rfl | rfl | rfl | rfl | rfl | rfl | rfl | rfl | rfl | rfl | rfl
  ·exact He.free_ok X G (c.d.fact 50 (f:=.free "len") rfl)
  ·exact He.free_ok X G (c.d.fact 51 (f:=.free "abs") rfl)
  ·exact He.free_ok X G (c.d.fact 52 (f:=.free "max") rfl)
  ·exact He.free_ok X G (c.d.fact 53 (f:=.free "min") rfl)
  ·exact He.free_ok X G (c.d.fact 54 (f:=.free "range") rfl)
  ·exact He.free_ok X G (c.d.fact 55 (f:=.free "isinstance") rfl)
  ·exact He.free_ok X G (c.d.fact 56 (f:=.free "repr") rfl)
  ·exact He.free_ok X G (c.d.fact 57 (f:=.free "list") rfl)
  ·exact He.free_ok X G (c.d.fact 58 (f:=.free "tuple") rfl)
  ·exact He.free_ok X G (c.d.fact 59 (f:=.free "dict") rfl)
  ·exact He.free_ok X G (c.d.fact 60 (f:=.free "sorted") rfl)
  ·exact He.free_ok X G (c.d.fact 61 (f:=.free "sum") rfl)
  ·exact He.free_ok X G (c.d.fact 62 (f:=.free "enumerate") rfl)
  ·exact He.free_ok X G (c.d.fact 63 (f:=.free "zip") rfl)
  ·exact He.free_ok X G (c.d.fact 64 (f:=.free "reversed") rfl)
  ·exact He.free_ok X G (c.d.fact 65 (f:=.free "str") rfl)
  ·exact He.free_ok X G (c.d.fact 66 (f:=.free "int") rfl)
  ·exact He.free_ok X G (c.d.fact 67 (f:=.free "bool") rfl)
  ·exact He.free_ok X G (c.d.fact 68 (f:=.free "set") rfl)
  ·exact He.free_ok X G (c.d.fact 69 (f:=.free "ValueError") rfl)
  ·exact He.free_ok X G (c.d.fact 70 (f:=.free "any") rfl)
  ·exact He.free_ok X G (c.d.fact 71 (f:=.free "all") rfl)
theorem xok (X:K.In h) (G:h.Ns mainGlobals mg) (c:SaysX fa fn fx K):XOk (tb K) P w K mg base:=by
 intro j x kd h1 h2
 have h1:([none,some (.fld "at"),some (.fld "name"),some (.fld "name"),some (.fld "most"),some (.fld "hands"),some (.fld "way"),none]:List (Option XKd))[j]?.join=some kd:=h1
 have h2:b3R[j]?=some x:=h2
 match j,h1,h2 with
 | 0,h1,_=>cases h1
 | 1,h1,h2 =>
  cases h1;cases h2
  obtain ⟨fd,F⟩:=c.d.def_ 40 rfl
  have z:=a4b (c.fact 1 (f:=.ini "Wrong") rfl)
  exact .fld (a1r (c.fact 0 (f:=.oex "Wrong") rfl)) z.1 z.2 (a1H (k:=0) (N:=["self", "at"]) (B:=He.ga K "MainsError") (z := "MainsError") F ⟨rfl,rfl,rfl,by decide +kernel,rfl,by decide +kernel,by decide +kernel⟩ (by decide +kernel) (He.glo_ok X G (c.d.fact 42 (f:=.glo "MainsError") rfl)) (a3Y (c.fact 18 (f:=.bas "MainsError") rfl)) (a1r (c.fact 0 (f:=.oex "Wrong") rfl)) (a2u (c.fact 2 (f:=.nov "Wrong" "at") rfl))) (FunD.bindsN (ps:=["self", "at"]) F fun _ _ _ _ _ _ us hl=>match us,hl with | [_,_],_=>rfl) (by omega)
 | 2,h1,h2 =>
  cases h1;cases h2
  obtain ⟨fd,F⟩:=c.d.def_ 41 rfl
  have z:=a4b (c.fact 4 (f:=.ini "There") rfl)
  exact .fld (a1r (c.fact 3 (f:=.oex "There") rfl)) z.1 z.2 (a1H (k:=0) (N:=["self", "name"]) (B:=He.ga K "MainsError") (z := "MainsError") F ⟨rfl,rfl,rfl,by decide +kernel,rfl,by decide +kernel,by decide +kernel⟩ (by decide +kernel) (He.glo_ok X G (c.d.fact 42 (f:=.glo "MainsError") rfl)) (a3Y (c.fact 18 (f:=.bas "MainsError") rfl)) (a1r (c.fact 3 (f:=.oex "There") rfl)) (a2u (c.fact 5 (f:=.nov "There" "name") rfl))) (FunD.bindsN (ps:=["self", "name"]) F fun _ _ _ _ _ _ us hl=>match us,hl with | [_,_],_=>rfl) (by omega)
 | 3,h1,h2 =>
  cases h1;cases h2
  obtain ⟨fd,F⟩:=c.d.def_ 42 rfl
  have z:=a4b (c.fact 7 (f:=.ini "Lacks") rfl)
  exact .fld (a1r (c.fact 6 (f:=.oex "Lacks") rfl)) z.1 z.2 (a1H (k:=0) (N:=["self", "name"]) (B:=He.ga K "MainsError") (z := "MainsError") F ⟨rfl,rfl,rfl,by decide +kernel,rfl,by decide +kernel,by decide +kernel⟩ (by decide +kernel) (He.glo_ok X G (c.d.fact 42 (f:=.glo "MainsError") rfl)) (a3Y (c.fact 18 (f:=.bas "MainsError") rfl)) (a1r (c.fact 6 (f:=.oex "Lacks") rfl)) (a2u (c.fact 8 (f:=.nov "Lacks" "name") rfl))) (FunD.bindsN (ps:=["self", "name"]) F fun _ _ _ _ _ _ us hl=>match us,hl with | [_,_],_=>rfl) (by omega)
 | 4,h1,h2 =>
  cases h1;cases h2
  obtain ⟨fd,F⟩:=c.d.def_ 43 rfl
  have z:=a4b (c.fact 10 (f:=.ini "TooMany") rfl)
  exact .fld (a1r (c.fact 9 (f:=.oex "TooMany") rfl)) z.1 z.2 (a1H (k:=0) (N:=["self", "most"]) (B:=He.ga K "MainsError") (z := "MainsError") F ⟨rfl,rfl,rfl,by decide +kernel,rfl,by decide +kernel,by decide +kernel⟩ (by decide +kernel) (He.glo_ok X G (c.d.fact 42 (f:=.glo "MainsError") rfl)) (a3Y (c.fact 18 (f:=.bas "MainsError") rfl)) (a1r (c.fact 9 (f:=.oex "TooMany") rfl)) (a2u (c.fact 11 (f:=.nov "TooMany" "most") rfl))) (FunD.bindsN (ps:=["self", "most"]) F fun _ _ _ _ _ _ us hl=>match us,hl with | [_,_],_=>rfl) (by omega)
 | 5,h1,h2 =>
  cases h1;cases h2
  obtain ⟨fd,F⟩:=c.d.def_ 44 rfl
  have z:=a4b (c.fact 13 (f:=.ini "Held") rfl)
  exact .fld (a1r (c.fact 12 (f:=.oex "Held") rfl)) z.1 z.2 (a1H (k:=0) (N:=["self", "hands"]) (B:=He.ga K "MainsError") (z := "MainsError") F ⟨rfl,rfl,rfl,by decide +kernel,rfl,by decide +kernel,by decide +kernel⟩ (by decide +kernel) (He.glo_ok X G (c.d.fact 42 (f:=.glo "MainsError") rfl)) (a3Y (c.fact 18 (f:=.bas "MainsError") rfl)) (a1r (c.fact 12 (f:=.oex "Held") rfl)) (a2u (c.fact 14 (f:=.nov "Held" "hands") rfl))) (FunD.bindsN (ps:=["self", "hands"]) F fun _ _ _ _ _ _ us hl=>match us,hl with | [_,_],_=>rfl) (by omega)
 | 6,h1,h2 =>
  cases h1;cases h2
  obtain ⟨fd,F⟩:=c.d.def_ 45 rfl
  have z:=a4b (c.fact 16 (f:=.ini "NoPart") rfl)
  exact .fld (a1r (c.fact 15 (f:=.oex "NoPart") rfl)) z.1 z.2 (a1H (k:=0) (N:=["self", "way"]) (B:=He.ga K "MainsError") (z := "MainsError") F ⟨rfl,rfl,rfl,by decide +kernel,rfl,by decide +kernel,by decide +kernel⟩ (by decide +kernel) (He.glo_ok X G (c.d.fact 42 (f:=.glo "MainsError") rfl)) (a3Y (c.fact 18 (f:=.bas "MainsError") rfl)) (a1r (c.fact 15 (f:=.oex "NoPart") rfl)) (a2u (c.fact 17 (f:=.nov "NoPart" "way") rfl))) (FunD.bindsN (ps:=["self", "way"]) F fun _ _ _ _ _ _ us hl=>match us,hl with | [_,_],_=>rfl) (by omega)
 | 7,h1,_=>cases h1
 | n + 8,h1,_=>cases h1
theorem a4Y:a0s (tb K) P w K mg base 0 0:=a0s.zero
local macro_rules | `(tactic| walk_at "b1")=>`(tactic| exact fun _ _ _ _ _ _ us hl=>match us,hl with | [_],_=>rfl)
local macro_rules | `(tactic| walk_at "b2")=>`(tactic| exact fun _ _ _ _ _ _ us hl=>match us,hl with | [_,_],_=>rfl)
local macro_rules | `(tactic| walk_at "b3")=>`(tactic| exact fun _ _ _ _ _ _ us hl=>match us,hl with | [_,_,_],_=>rfl)
local macro_rules | `(tactic| walk_at "b4")=>`(tactic| exact fun _ _ _ _ _ _ us hl=>match us,hl with | [_,_,_,_],_=>rfl)
local macro_rules | `(tactic| walk_at "b5")=>`(tactic| exact fun _ _ _ _ _ _ us hl=>match us,hl with | [_,_,_,_,_],_=>rfl)
section
variable (P w base)
variable (X:K.In h) (G:h.Ns mainGlobals mg) (c:SaysX fa fn fx K)
include X G c
theorem all1:a0s (tb K) P w K mg base 1 1:=by
 have A:a0s (tb K) P w K mg base 0 0:=a4Y
 have A2:=a4Y (P:=P) (w:=w) (K:=K) (mg:=mg) (base:=base)
 obtain ⟨fd,F⟩:=c.d.def_ 0 rfl
 exact A.step (d:=0) (by omega) (x:=.fn "_law_bag") rfl ⟨He.glo_ok X G (c.d.fact 0 (f:=.glo "_law_bag") rfl),F.kp⟩ (FunD.bindsN (ps:=["_law_script"]) F (by walk_at "b1")) (a1l (a0m (i:=0) A2 (a1h X G c) (xok X G c) F sc0 ck0 (me0 c))) (a1j)
theorem all2:a0s (tb K) P w K mg base 2 1:=by
 have A:=all1 P w base X G c
 have A2:=a4Y (P:=P) (w:=w) (K:=K) (mg:=mg) (base:=base)
 obtain ⟨fd,F⟩:=c.d.def_ 1 rfl
 exact A.step (d:=0) (by omega) (x:=.fn "_law_take") rfl ⟨He.glo_ok X G (c.d.fact 1 (f:=.glo "_law_take") rfl),F.kp⟩ (FunD.bindsN (ps:=["_law_bag_here", "_law_many"]) F (by walk_at "b2")) (a1l (a0m (i:=1) A2 (a1h X G c) (xok X G c) F sc1 ck1 (me1 c))) (a1j)
theorem c1I:a0s (tb K) P w K mg base 3 1:=by
 have A:=all2 P w base X G c
 have A2:=a4Y (P:=P) (w:=w) (K:=K) (mg:=mg) (base:=base)
 obtain ⟨fd,F⟩:=c.d.def_ 2 rfl
 exact A.step (d:=0) (by omega) (x:=.mt "Layout" "__init__") rfl ⟨a0b c,He.meth_ok (c.d.fact 2 (f:=.meth "Layout" "__init__") rfl),fun _=>⟨He.glo_ok X G (c.d.fact 49 (f:=.glo "Layout") rfl),He.mkr_ok (c.d.fact 4 (f:=.mkr "Layout") rfl)⟩⟩ (FunD.bindsN (ps:=["self"]) F (by walk_at "b1")) (a1l (a0m (i:=2) A2 (a1h X G c) (xok X G c) F sc2 ck2 (me2 c))) (a1j)
theorem c1J:a0s (tb K) P w K mg base 4 1:=by
 have A:=c1I P w base X G c
 have A2:=a4Y (P:=P) (w:=w) (K:=K) (mg:=mg) (base:=base)
 obtain ⟨fd,F⟩:=c.d.def_ 3 rfl
 exact A.step (d:=0) (by omega) (x:=.fn "wrong_unless") rfl ⟨He.glo_ok X G (c.d.fact 5 (f:=.glo "wrong_unless") rfl),F.kp⟩ (FunD.bindsN (ps:=["at", "good"]) F (by walk_at "b2")) (a1l (a0m (i:=3) A2 (a1h X G c) (xok X G c) F sc3 ck3 (me3 c))) (a1j)
theorem c1K:a0s (tb K) P w K mg base 5 1:=by
 have A:=c1J P w base X G c
 have A2:=a4Y (P:=P) (w:=w) (K:=K) (mg:=mg) (base:=base)
 obtain ⟨fd,F⟩:=c.d.def_ 4 rfl
 exact A.step (d:=0) (by omega) (x:=.fn "is_name") rfl ⟨He.glo_ok X G (c.d.fact 6 (f:=.glo "is_name") rfl),F.kp⟩ (FunD.bindsN (ps:=["thing"]) F (by walk_at "b1")) (a1l (a0m (i:=4) A2 (a1h X G c) (xok X G c) F sc4 ck4 (me4 c))) (a1j)
theorem c1L:a0s (tb K) P w K mg base 6 1:=by
 have A:=c1K P w base X G c
 have A2:=a4Y (P:=P) (w:=w) (K:=K) (mg:=mg) (base:=base)
 obtain ⟨fd,F⟩:=c.d.def_ 5 rfl
 exact A.step (d:=0) (by omega) (x:=.fn "is_whole") rfl ⟨He.glo_ok X G (c.d.fact 7 (f:=.glo "is_whole") rfl),F.kp⟩ (FunD.bindsN (ps:=["thing"]) F (by walk_at "b1")) (a1l (a0m (i:=5) A2 (a1h X G c) (xok X G c) F sc5 ck5 (me5 c))) (a1j)
theorem c1M:a0s (tb K) P w K mg base 7 1:=by
 have A:=c1L P w base X G c
 have A2:=a4Y (P:=P) (w:=w) (K:=K) (mg:=mg) (base:=base)
 obtain ⟨fd,F⟩:=c.d.def_ 6 rfl
 exact A.step (d:=0) (by omega) (x:=.mt "Layout" "need_new") rfl ⟨a0b c,He.meth_ok (c.d.fact 8 (f:=.meth "Layout" "need_new") rfl),fun h=>absurd h (by decide)⟩ (FunD.bindsN (ps:=["self", "name"]) F (by walk_at "b2")) (a1l (a0m (i:=6) A2 (a1h X G c) (xok X G c) F sc6 ck6 (me6 c))) (a1j)
theorem c1N:a0s (tb K) P w K mg base 8 1:=by
 have A:=c1M P w base X G c
 have A2:=a4Y (P:=P) (w:=w) (K:=K) (mg:=mg) (base:=base)
 obtain ⟨fd,F⟩:=c.d.def_ 7 rfl
 exact A.step (d:=0) (by omega) (x:=.fn "lacks_unless") rfl ⟨He.glo_ok X G (c.d.fact 9 (f:=.glo "lacks_unless") rfl),F.kp⟩ (FunD.bindsN (ps:=["name", "some"]) F (by walk_at "b2")) (a1l (a0m (i:=7) A2 (a1h X G c) (xok X G c) F sc7 ck7 (me7 c))) (a1j)
theorem c1O:a0s (tb K) P w K mg base 9 1:=by
 have A:=c1N P w base X G c
 have A2:=a4Y (P:=P) (w:=w) (K:=K) (mg:=mg) (base:=base)
 obtain ⟨fd,F⟩:=c.d.def_ 8 rfl
 exact A.step (d:=0) (by omega) (x:=.fn "_law_alike") rfl ⟨He.glo_ok X G (c.d.fact 10 (f:=.glo "_law_alike") rfl),F.kp⟩ (FunD.bindsN (ps:=["_law_found", "_law_due_here"]) F (by walk_at "b2")) (a1l (a0m (i:=8) A2 (a1h X G c) (xok X G c) F sc8 ck8 (me8 c))) (a1j)
theorem b7F:a0s (tb K) P w K mg base 10 1:=by
 have A:=c1O P w base X G c
 have A2:=a4Y (P:=P) (w:=w) (K:=K) (mg:=mg) (base:=base)
 obtain ⟨fd,F⟩:=c.d.def_ 9 rfl
 exact A.step (d:=0) (by omega) (x:=.fn "must") rfl ⟨He.glo_ok X G (c.d.fact 11 (f:=.glo "must") rfl),F.kp⟩ (FunD.bindsN (ps:=["at", "good"]) F (by walk_at "b2")) (a1l (a0m (i:=9) A2 (a1h X G c) (xok X G c) F sc9 ck9 (me9 c))) (a1j)
theorem b7G:a0s (tb K) P w K mg base 11 1:=by
 have A:=b7F P w base X G c
 have A2:=a4Y (P:=P) (w:=w) (K:=K) (mg:=mg) (base:=base)
 obtain ⟨fd,F⟩:=c.d.def_ 10 rfl
 exact A.step (d:=0) (by omega) (x:=.mt "Layout" "lines") rfl ⟨a0b c,He.meth_ok (c.d.fact 12 (f:=.meth "Layout" "lines") rfl),fun h=>absurd h (by decide)⟩ (FunD.bindsN (ps:=["self"]) F (by walk_at "b1")) (a1l (a0m (i:=10) A2 (a1h X G c) (xok X G c) F c3B c1Q (c2H c))) (a1j)
theorem b7H:a0s (tb K) P w K mg base 12 1:=by
 have A:=b7G P w base X G c
 have A2:=a4Y (P:=P) (w:=w) (K:=K) (mg:=mg) (base:=base)
 obtain ⟨fd,F⟩:=c.d.def_ 11 rfl
 exact A.step (d:=0) (by omega) (x:=.fn "_law_class") rfl ⟨He.glo_ok X G (c.d.fact 13 (f:=.glo "_law_class") rfl),F.kp⟩ (FunD.bindsN (ps:=["_law_e"]) F (by walk_at "b1")) (a1j) (a1l (a0m (i:=11) A2 (a1h X G c) (xok X G c) F c3C c1R (b86 c)))
theorem b7I:a0s (tb K) P w K mg base 13 1:=by
 have A:=b7H P w base X G c
 have A2:=a4Y (P:=P) (w:=w) (K:=K) (mg:=mg) (base:=base)
 obtain ⟨fd,F⟩:=c.d.def_ 12 rfl
 exact A.step (d:=0) (by omega) (x:=.fn "_law_due") rfl ⟨He.glo_ok X G (c.d.fact 14 (f:=.glo "_law_due") rfl),F.kp⟩ (FunD.bindsN (ps:=["_law_m", "_law_names_here"]) F (by walk_at "b2")) (a1l (a0m (i:=12) A2 (a1h X G c) (xok X G c) F c3D c1S (c2I c))) (a1j)
theorem b7J:a0s (tb K) P w K mg base 14 1:=by
 have A:=b7I P w base X G c
 have A2:=a4Y (P:=P) (w:=w) (K:=K) (mg:=mg) (base:=base)
 obtain ⟨fd,F⟩:=c.d.def_ 13 rfl
 exact A.step (d:=0) (by omega) (x:=.mt "Layout" "rooms") rfl ⟨a0b c,He.meth_ok (c.d.fact 15 (f:=.meth "Layout" "rooms") rfl),fun h=>absurd h (by decide)⟩ (FunD.bindsN (ps:=["self"]) F (by walk_at "b1")) (a1l (a0m (i:=13) A2 (a1h X G c) (xok X G c) F c3E c1T (c2J c))) (a1j)
theorem b7K:a0s (tb K) P w K mg base 15 1:=by
 have A:=b7J P w base X G c
 have A2:=a4Y (P:=P) (w:=w) (K:=K) (mg:=mg) (base:=base)
 obtain ⟨fd,F⟩:=c.d.def_ 14 rfl
 exact A.step (d:=0) (by omega) (x:=.mt "Layout" "drains") rfl ⟨a0b c,He.meth_ok (c.d.fact 16 (f:=.meth "Layout" "drains") rfl),fun h=>absurd h (by decide)⟩ (FunD.bindsN (ps:=["self"]) F (by walk_at "b1")) (a1l (a0m (i:=14) A2 (a1h X G c) (xok X G c) F c3F c1U (c2K c))) (a1j)
theorem a2k:a0s (tb K) P w K mg base 16 1:=by
 have A:=b7K P w base X G c
 have A2:=a4Y (P:=P) (w:=w) (K:=K) (mg:=mg) (base:=base)
 obtain ⟨fd,F⟩:=c.d.def_ 15 rfl
 exact A.step (d:=0) (by omega) (x:=.mt "Layout" "sources") rfl ⟨a0b c,He.meth_ok (c.d.fact 17 (f:=.meth "Layout" "sources") rfl),fun h=>absurd h (by decide)⟩ (FunD.bindsN (ps:=["self"]) F (by walk_at "b1")) (a1l (a0m (i:=15) A2 (a1h X G c) (xok X G c) F c3G c1V (c2L c))) (a1j)
theorem b7L:a0s (tb K) P w K mg base 17 2:=by
 have A:=a2k P w base X G c
 have A2:=a2k P w base X G c
 obtain ⟨fd,F⟩:=c.d.def_ 16 rfl
 exact A.step (d:=1) (by omega) (x:=.fn "_law_size") rfl ⟨He.glo_ok X G (c.d.fact 18 (f:=.glo "_law_size") rfl),F.kp⟩ (FunD.bindsN (ps:=["_law_bag_here"]) F (by walk_at "b1")) (a1l (a0m (i:=16) A2 (a1h X G c) (xok X G c) F c3H c1W (c2M c))) (a1j)
theorem b7M:a0s (tb K) P w K mg base 18 2:=by
 have A:=b7L P w base X G c
 have A2:=a2k P w base X G c
 obtain ⟨fd,F⟩:=c.d.def_ 17 rfl
 exact A.step (d:=1) (by omega) (x:=.fn "_law_name") rfl ⟨He.glo_ok X G (c.d.fact 19 (f:=.glo "_law_name") rfl),F.kp⟩ (FunD.bindsN (ps:=["_law_bag_here"]) F (by walk_at "b1")) (a1l (a0m (i:=17) A2 (a1h X G c) (xok X G c) F c3I c1X (c2N c))) (a1j)
theorem b7N:a0s (tb K) P w K mg base 19 2:=by
 have A:=b7M P w base X G c
 have A2:=a2k P w base X G c
 obtain ⟨fd,F⟩:=c.d.def_ 18 rfl
 exact A.step (d:=1) (by omega) (x:=.fn "_law_some") rfl ⟨He.glo_ok X G (c.d.fact 20 (f:=.glo "_law_some") rfl),F.kp⟩ (FunD.bindsN (ps:=["_law_bag_here", "_law_names_here", "_law_many"]) F (by walk_at "b3")) (a1l (a0m (i:=18) A2 (a1h X G c) (xok X G c) F c3J c1Y (c2O c))) (a1j)
theorem b7O:a0s (tb K) P w K mg base 20 2:=by
 have A:=b7N P w base X G c
 have A2:=a2k P w base X G c
 obtain ⟨fd,F⟩:=c.d.def_ 19 rfl
 exact A.step (d:=1) (by omega) (x:=.fn "_law_ends") rfl ⟨He.glo_ok X G (c.d.fact 21 (f:=.glo "_law_ends") rfl),F.kp⟩ (FunD.bindsN (ps:=["_law_bag_here", "_law_many", "_law_shape", "_law_k"]) F (by walk_at "b4")) (a1l (a0m (i:=19) A2 (a1h X G c) (xok X G c) F c3K c1Z (c2P c))) (a1j)
theorem b7P:a0s (tb K) P w K mg base 21 2:=by
 have A:=b7O P w base X G c
 have A2:=a2k P w base X G c
 obtain ⟨fd,F⟩:=c.d.def_ 20 rfl
 exact A.step (d:=1) (by omega) (x:=.fn "_law_cost") rfl ⟨He.glo_ok X G (c.d.fact 22 (f:=.glo "_law_cost") rfl),F.kp⟩ (FunD.bindsN (ps:=["_law_bag_here", "_law_costs"]) F (by walk_at "b2")) (a1l (a0m (i:=20) A2 (a1h X G c) (xok X G c) F c3L c13 (c2Q c))) (a1j)
theorem b7Q:a0s (tb K) P w K mg base 22 2:=by
 have A:=b7P P w base X G c
 have A2:=a2k P w base X G c
 obtain ⟨fd,F⟩:=c.d.def_ 21 rfl
 exact A.step (d:=1) (by omega) (x:=.mt "Layout" "add_room") rfl ⟨a0b c,He.meth_ok (c.d.fact 23 (f:=.meth "Layout" "add_room") rfl),fun h=>absurd h (by decide)⟩ (FunD.bindsN (ps:=["self", "room"]) F (by walk_at "b2")) (a1l (a0m (i:=21) A2 (a1h X G c) (xok X G c) F c3M c14 (c2R c))) (a1j)
theorem b7R:a0s (tb K) P w K mg base 23 2:=by
 have A:=b7Q P w base X G c
 have A2:=a2k P w base X G c
 obtain ⟨fd,F⟩:=c.d.def_ 22 rfl
 exact A.step (d:=1) (by omega) (x:=.fn "is_cost") rfl ⟨He.glo_ok X G (c.d.fact 24 (f:=.glo "is_cost") rfl),F.kp⟩ (FunD.bindsN (ps:=["thing"]) F (by walk_at "b1")) (a1l (a0m (i:=22) A2 (a1h X G c) (xok X G c) F c3N c15 (c2S c))) (a1j)
theorem b7S:a0s (tb K) P w K mg base 24 2:=by
 have A:=b7R P w base X G c
 have A2:=a2k P w base X G c
 obtain ⟨fd,F⟩:=c.d.def_ 23 rfl
 exact A.step (d:=1) (by omega) (x:=.mt "Layout" "add_source") rfl ⟨a0b c,He.meth_ok (c.d.fact 25 (f:=.meth "Layout" "add_source") rfl),fun h=>absurd h (by decide)⟩ (FunD.bindsN (ps:=["self", "room"]) F (by walk_at "b2")) (a1l (a0m (i:=23) A2 (a1h X G c) (xok X G c) F c3O c17 (c2T c))) (a1j)
theorem b7T:a0s (tb K) P w K mg base 25 2:=by
 have A:=b7S P w base X G c
 have A2:=a2k P w base X G c
 obtain ⟨fd,F⟩:=c.d.def_ 24 rfl
 exact A.step (d:=1) (by omega) (x:=.mt "Layout" "add_drain") rfl ⟨a0b c,He.meth_ok (c.d.fact 26 (f:=.meth "Layout" "add_drain") rfl),fun h=>absurd h (by decide)⟩ (FunD.bindsN (ps:=["self", "drain", "room"]) F (by walk_at "b3")) (a1l (a0m (i:=24) A2 (a1h X G c) (xok X G c) F c3P c18 (c2U c))) (a1j)
theorem b7U:a0s (tb K) P w K mg base 26 2:=by
 have A:=b7T P w base X G c
 have A2:=a2k P w base X G c
 obtain ⟨fd,F⟩:=c.d.def_ 25 rfl
 exact A.step (d:=1) (by omega) (x:=.fn "are_names") rfl ⟨He.glo_ok X G (c.d.fact 27 (f:=.glo "are_names") rfl),F.kp⟩ (FunD.bindsN (ps:=["thing"]) F (by walk_at "b1")) (a1l (a0m (i:=25) A2 (a1h X G c) (xok X G c) F c3Q c19 (c2V c))) (a1j)
theorem b7V:a0s (tb K) P w K mg base 27 2:=by
 have A:=b7U P w base X G c
 have A2:=a2k P w base X G c
 obtain ⟨fd,F⟩:=c.d.def_ 26 rfl
 exact A.step (d:=1) (by omega) (x:=.mt "Layout" "line") rfl ⟨a0b c,He.meth_ok (c.d.fact 28 (f:=.meth "Layout" "line") rfl),fun h=>absurd h (by decide)⟩ (FunD.bindsN (ps:=["self", "line"]) F (by walk_at "b2")) (a1l (a0m (i:=26) A2 (a1h X G c) (xok X G c) F c3R c2a (c2W c))) (a1j)
theorem b7W:a0s (tb K) P w K mg base 28 2:=by
 have A:=b7V P w base X G c
 have A2:=a2k P w base X G c
 obtain ⟨fd,F⟩:=c.d.def_ 27 rfl
 exact A.step (d:=1) (by omega) (x:=.mt "Layout" "take_line") rfl ⟨a0b c,He.meth_ok (c.d.fact 29 (f:=.meth "Layout" "take_line") rfl),fun h=>absurd h (by decide)⟩ (FunD.bindsN (ps:=["self", "line"]) F (by walk_at "b2")) (a1l (a0m (i:=27) A2 (a1h X G c) (xok X G c) F c3S c2b (c2X c))) (a1j)
theorem a8b:a0s (tb K) P w K mg base 29 2:=by
 have A:=b7W P w base X G c
 have A2:=a2k P w base X G c
 obtain ⟨fd,F⟩:=c.d.def_ 28 rfl
 exact A.step (d:=1) (by omega) (x:=.fn "_law_odd_list") rfl ⟨He.glo_ok X G (c.d.fact 30 (f:=.glo "_law_odd_list") rfl),F.kp⟩ (FunD.bindsN (ps:=["_law_bag_here", "_law_names_here"]) F (by walk_at "b2")) (a1l (a0m (i:=28) A2 (a1h X G c) (xok X G c) F c3T c2c (c2Y c))) (a1j)
theorem b7X:a0s (tb K) P w K mg base 30 3:=by
 have A:=a8b P w base X G c
 have A2:=a8b P w base X G c
 obtain ⟨fd,F⟩:=c.d.def_ 29 rfl
 exact A.step (d:=2) (by omega) (x:=.fn "_law_names") rfl ⟨He.glo_ok X G (c.d.fact 31 (f:=.glo "_law_names") rfl),F.kp⟩ (FunD.bindsN (ps:=["_law_bag_here", "_law_many"]) F (by walk_at "b2")) (a1l (a0m (i:=29) A2 (a1h X G c) (xok X G c) F c3U c2d (c2Z c))) (a1j)
theorem b7Y:a0s (tb K) P w K mg base 31 3:=by
 have A:=b7X P w base X G c
 have A2:=a8b P w base X G c
 obtain ⟨fd,F⟩:=c.d.def_ 30 rfl
 exact A.step (d:=2) (by omega) (x:=.mt "Layout" "add_line") rfl ⟨a0b c,He.meth_ok (c.d.fact 32 (f:=.meth "Layout" "add_line") rfl),fun h=>absurd h (by decide)⟩ (FunD.bindsN (ps:=["self", "line", "one", "other", "cost"]) F (by walk_at "b5")) (a1l (a0m (i:=30) A2 (a1h X G c) (xok X G c) F c3V c2e (c20 c))) (a1j)
theorem b7Z:a0s (tb K) P w K mg base 32 3:=by
 have A:=b7Y P w base X G c
 have A2:=a8b P w base X G c
 obtain ⟨fd,F⟩:=c.d.def_ 31 rfl
 exact A.step (d:=2) (by omega) (x:=.fn "_law_asked") rfl ⟨He.glo_ok X G (c.d.fact 33 (f:=.glo "_law_asked") rfl),F.kp⟩ (FunD.bindsN (ps:=["_law_bag_here", "_law_m"]) F (by walk_at "b2")) (a1l (a0m (i:=31) A2 (a1h X G c) (xok X G c) F c3W c2f (c22 c))) (a1j)
theorem a8c:a0s (tb K) P w K mg base 33 3:=by
 have A:=b7Z P w base X G c
 have A2:=a8b P w base X G c
 obtain ⟨fd,F⟩:=c.d.def_ 32 rfl
 exact A.step (d:=2) (by omega) (x:=.fn "must_be_switches") rfl ⟨He.glo_ok X G (c.d.fact 34 (f:=.glo "must_be_switches") rfl),F.kp⟩ (FunD.bindsN (ps:=["layout", "names"]) F (by walk_at "b2")) (a1l (a0m (i:=32) A2 (a1h X G c) (xok X G c) F c3X c2g (c23 c))) (a1j)
theorem b70:a0s (tb K) P w K mg base 34 4:=by
 have A:=a8c P w base X G c
 have A2:=a8c P w base X G c
 obtain ⟨fd,F⟩:=c.d.def_ 33 rfl
 exact A.step (d:=3) (by omega) (x:=.fn "_law_works") rfl ⟨He.glo_ok X G (c.d.fact 35 (f:=.glo "_law_works") rfl),F.kp⟩ (FunD.bindsN (ps:=["_law_bag_here", "_law_many", "_law_more"]) F (by walk_at "b3")) (a1l (a0m (i:=33) A2 (a1h X G c) (xok X G c) F c3Y c2h (c24 c))) (a1j)
theorem b71:a0s (tb K) P w K mg base 35 4:=by
 have A:=b70 P w base X G c
 have A2:=a8c P w base X G c
 obtain ⟨fd,F⟩:=c.d.def_ 34 rfl
 exact A.step (d:=3) (by omega) (x:=.fn "_law_layout") rfl ⟨He.glo_ok X G (c.d.fact 36 (f:=.glo "_law_layout") rfl),F.kp⟩ (FunD.bindsN (ps:=["_law_m"]) F (by walk_at "b1")) (a1l (a0m (i:=34) A2 (a1h X G c) (xok X G c) F c3Z c2i (c25 c))) (a1j)
theorem b72:a0s (tb K) P w K mg base 36 4:=by
 have A:=b71 P w base X G c
 have A2:=a8c P w base X G c
 obtain ⟨fd,F⟩:=c.d.def_ 35 rfl
 exact A.step (d:=3) (by omega) (x:=.fn "cost_of") rfl ⟨He.glo_ok X G (c.d.fact 37 (f:=.glo "cost_of") rfl),F.kp⟩ (FunD.bindsN (ps:=["layout", "switches"]) F (by walk_at "b2")) (a1l (a0m (i:=35) A2 (a1h X G c) (xok X G c) F c30 c2j (c26 c))) (a1j)
theorem b3G:a0s (tb K) P w K mg base 37 4:=by
 have A:=b72 P w base X G c
 have A2:=a8c P w base X G c
 obtain ⟨fd,F⟩:=c.d.def_ 36 rfl
 exact A.step (d:=3) (by omega) (x:=.fn "_law_turned") rfl ⟨He.glo_ok X G (c.d.fact 38 (f:=.glo "_law_turned") rfl),F.kp⟩ (FunD.bindsN (ps:=["_law_bag_here", "_law_here", "_law_m", "_law_name_here"]) F (by walk_at "b4")) (a1l (a0m (i:=36) A2 (a1h X G c) (xok X G c) F c31 c2k (c27 c))) (a1j)
theorem b3H:a0s (tb K) P w K mg base 38 5:=by
 have A:=b3G P w base X G c
 have A2:=b3G P w base X G c
 obtain ⟨fd,F⟩:=c.d.def_ 37 rfl
 exact A.step (d:=4) (by omega) (x:=.fn "_law_said") rfl ⟨He.glo_ok X G (c.d.fact 39 (f:=.glo "_law_said") rfl),F.kp⟩ (FunD.bindsN (ps:=["_law_here", "_law_names_here"]) F (by walk_at "b2")) (a1l (a0m (i:=37) A2 (a1h X G c) (xok X G c) F c32 c2l (c28 c))) (a1j)
theorem b73:a0s (tb K) P w K mg base 39 6:=by
 have A:=b3H P w base X G c
 have A2:=b3H P w base X G c
 obtain ⟨fd,F⟩:=c.d.def_ 38 rfl
 exact A.step (d:=5) (by omega) (x:=.fn "_law_wrong") rfl ⟨He.glo_ok X G (c.d.fact 40 (f:=.glo "_law_wrong") rfl),F.kp⟩ (FunD.bindsN (ps:=["_law_bag_here", "_law_here", "_law_names_here"]) F (by walk_at "b3")) (a1l (a0m (i:=38) A2 (a1h X G c) (xok X G c) F c33 c2m (c29 c))) (a1j)
end
theorem facts {f:Addr} (X:K.In h) (G:h.Ns mainGlobals mg) (hfa:mg ("law" : Str)=some (.ref f)) (c:SaysX fa fn fx K) :
  ∃ fd:FuncData,(∀ (s:Shared) (v:Value),BindsTo s fd ⟨[v],[]⟩ [("_law_script",v)])∧∀ base:Heap,K.In base→base.Ns mainGlobals mg→FnG P w K mg base false 16 f fd ["_law_script"] (spD ⟨K⟩ (lawT 63)):=by
 obtain ⟨fd,F⟩:=c.d.def_ 39 rfl
 have e:=hfa.symm.trans (He.glo_ok X G (c.d.fact 41 (f:=.glo "law") rfl))
 cases e
 have b:=FunD.bindsA (ps:=["_law_script"]) F fun _ _ _ _ _ _ us hl=>match us,hl with | [_],_=>rfl
 refine ⟨fd,fun s v=>b s [v] rfl,fun base _ _=>?_⟩
 exact a0m (t:=tb K) (i:=39) (d:=6) (show a0s (tb K) P w K mg base ((tb K).lo 39) 6 from b73 P w base X G c) (a1h X G c) (xok X G c) F c34 c2n (c3a c)
end
end Cl
open PySem PySem.W PySem.Calls PyProof.Rows
theorem PySem.Challenge.cw_stillmain_k41_cost_of_holds : PySem.Challenge.rw_stillmain_k41_cost_of.Holds := by
 exact Cl.whole fun X G hfa c=>Cl.facts X G hfa c
